/- Edges in order: one more of them. Plain Lean. -/
import Derived.Test.YtmhceknpmokahaaGreatDoorG3
namespace Go.Ab
open Go
theorem headsMay_iff:∀ {l:List Head} {k:Int},headsMay k l=true↔(∀h∈l,k<h.Item∧1≤h.Item∧h.Item≤6∧h.S.may=true)∧l.Pairwise (fun a b=>a.Item<b.Item)
 | [],k=>by simp[headsMay]
 |x::l,k=>by
  simp only[headsMay,Bool.and_eq_true,decide_eq_true_eq,headsMay_iff (l:=l),List.forall_mem_cons,List.pairwise_cons]
  constructor
  ·rintro⟨⟨h1,h2⟩,h3,h4⟩
   exact⟨⟨⟨h1.1,h1.2.1,h1.2.2,h2⟩,fun a ha=>⟨by have:=(h3 a ha).1;omega,(h3 a ha).2⟩⟩,fun a ha=>(h3 a ha).1,h4⟩
  ·rintro⟨⟨h1,h2⟩,h3,h4⟩
   exact⟨⟨⟨h1.1,h1.2.1,h1.2.2.1⟩,h1.2.2.2⟩,fun a ha=>⟨h3 a ha,(h2 a ha).2⟩,h4⟩
theorem insGo_may:∀ {l:List Head} {k:Int} {h:Head},headsMay k l=true→k<h.Item→1≤h.Item→h.Item≤6→h.S.may=true→headsMay k (insGo l h)=true
 | [],k,h,_,h1,h2,h3,h4=>by simp[insGo,headsMay,h4];omega
 |x::l,k,h,hm,h1,h2,h3,h4=>by
  unfold insGo
  split
  ·rename_i hle
   rw[headsMay_iff]at hm ⊢
   obtain⟨m1,m2⟩:=hm
   refine⟨fun a ha=> ?_, ?_⟩
   ·rcases List.mem_cons.1 ha with rfl|ha
    ·exact⟨h1,h2,h3,h4⟩
    ·exact m1 a (List.mem_filter.1 ha).1
   ·refine List.pairwise_cons.2 ⟨fun a ha=> ?_,m2.filter _⟩
    obtain⟨ha,hne⟩:=List.mem_filter.1 ha
    simp only[ne_eq,decide_not,Bool.not_eq_true',decide_eq_false_iff_not]at hne
    rcases List.mem_cons.1 ha with rfl|ha
    ·omega
    ·have:=(List.pairwise_cons.1 m2).1 a ha;omega
  ·rename_i hle
   simp only[headsMay,Bool.and_eq_true,decide_eq_true_eq]at hm ⊢
   exact⟨hm.1,insGo_may hm.2 (by omega) h2 h3 h4⟩
theorem putHead_may {l:List Head} {k:Int} {h:Head} (hm:headsMay k l=true) (h1:k<h.Item) (h2:1≤h.Item) (h3:h.Item≤6) (h4:h.S.may=true):headsMay k (putHead l h)=true:=by
 unfold putHead;split
 ·exact hm
 ·exact insGo_may hm h1 h2 h3 h4
structure HeldOk (l:List Version):Prop where
 may:∀v∈l,v.may=true
 ord:l.Pairwise (fun a b=>a.Item<b.Item)
theorem HeldOk.filter {l:List Version} (h:HeldOk l) (p:Version→Bool):HeldOk (l.filter p):=⟨fun v hv=>h.may v (List.mem_filter.1 hv).1,h.ord.filter _⟩
theorem Version.may_s {v:Version} (h:v.may=true):v.S.may=true:=by
 unfold Version.may at h
 simp only[Bool.and_eq_true]at h
 exact h.1.1.1.1.1.2
theorem HeldOk.heads {l:List Version} (h:HeldOk l):headsMay 0 (headsOf l)=true:=by
 rw[headsMay_iff]
 unfold headsOf
 refine⟨fun a ha=> ?_, ?_⟩
 ·obtain⟨v,hv,rfl⟩:=List.mem_map.1 ha
  have f:=Version.may_fit (h.may v hv)
  exact⟨by have:=f.i0;simp only;omega,f.i0,f.i1,Version.may_s (h.may v hv)⟩
 ·rw[List.pairwise_map];exact h.ord
theorem HeldOk.len {l:List Version} (h:HeldOk l):l.length≤6:=by
 have:=headsMay_len (by omega) h.heads
 simp only[headsOf,List.length_map]at this
 omega
theorem insV_ord:∀ {l:List Version} {v:Version},l.Pairwise (fun a b=>a.Item<b.Item)→(insV l v).Pairwise (fun a b=>a.Item<b.Item)
 | [],v,_=>by simp[insV]
 |x::l,v,h=>by
  unfold insV
  split
  ·rename_i hle
   refine List.pairwise_cons.2 ⟨fun a ha=> ?_,h.filter _⟩
   obtain⟨ha,hne⟩:=List.mem_filter.1 ha
   simp only[ne_eq,decide_not,Bool.not_eq_true',decide_eq_false_iff_not]at hne
   rcases List.mem_cons.1 ha with rfl|ha
   ·omega
   ·have:=(List.pairwise_cons.1 h).1 a ha;omega
  ·rename_i hle
   obtain⟨h1,h2⟩:=List.pairwise_cons.1 h
   refine List.pairwise_cons.2 ⟨fun a ha=> ?_,insV_ord h2⟩
   rcases insV_mem ha with ha|rfl
   ·exact h1 a ha
   ·omega
theorem HeldOk.put {l:List Version} {v:Version} (h:HeldOk l) (hv:v.may=true):HeldOk (putV l v):=by
 refine⟨fun w hw=> ?_, ?_⟩
 ·rcases putV_mem hw with hw|rfl
  ·exact h.may w hw
  ·exact hv
 ·unfold putV
  split
  ·split
   ·exact h.ord
   ·exact insV_ord h.ord
  ·exact insV_ord h.ord
structure View.Ok (size:Nat) (B:Int) (v:View):Prop where
 s:headsMay 0 v.Seen=true
 f:v.Filter.length≤80
 v0:0≤v.Rev
 v1:v.Rev≤B
 e0:v.Rev=0→v.Epochs= []
 el:v.Rev≠0→v.Epochs.length=size
 e:∀e∈v.Epochs,0≤e∧e≤B
theorem View.Ok.mono {size:Nat} {B B':Int} {v:View} (h:v.Ok size B) (hb:B≤B'):v.Ok size B':=
 ⟨h.s,h.f,h.v0,by have:=h.v1;omega,h.e0,h.el,fun e he=>by have:=h.e e he;omega⟩
theorem View.Ok.slen {size:Nat} {B:Int} {v:View} (h:v.Ok size B):v.Seen.length≤6:=by
 have:=headsMay_len (by omega) h.s;omega
theorem View.Ok.elen {size:Nat} {B:Int} {v:View} (h:v.Ok size B):v.Epochs.length≤size:=by
 by_cases h0:v.Rev=0
 ·rw[h.e0 h0];simp
 ·rw[h.el h0];exact Nat.le_refl _
def Prs.Short (P:Prs):Prop:=∀s,(P s).2.2=true→s.length≤80
theorem View.Fit.ok {P:Prs} (hP:P.Short) {size:Nat} {B:Int} {v:View} (h:v.Fit P size) (hB:1000000≤B):v.Ok size B where
 s:=h.s
 f:=by
  by_cases h0:v.Rev=0
  ·rw[(h.f0 h0).1];simp
  ·exact hP _ (h.f h0)
 v0:=h.v0
 v1:=by have:=h.v1;omega
 e0:=fun h0=>(h.f0 h0).2.2
 el:=fun h0=>by have:=h.el h0;omega
 e:=fun e he=>by have:=h.e e he;omega
structure Repl.Ok (size:Nat) (B:Int) (r:Repl):Prop where
 i0:1≤r.ID
 i1:r.ID≤size
 s5:size≤5
 sz:r.Size=size
 vl:r.Views.length=size
 vr:∀(i:Nat) (x:View),r.Views[i]? =some x→x.R=(i:Int)+1
 vs:∀w∈r.Views,w.Ok size B
 o1:1≤r.own.Rev
 hm:HeldOk r.Held
section
variable {P:Prs} {size:Nat} {B:Int} {r:Repl}
theorem Repl.Ok.mono {B':Int} (h:r.Ok size B) (hb:B≤B'):r.Ok size B':=⟨h.i0,h.i1,h.s5,h.sz,h.vl,h.vr,fun w hw=>(h.vs w hw).mono hb,h.o1,h.hm⟩
theorem Repl.Ok.own_at (h:r.Ok size B):r.Views[(r.ID-1).toNat]? =some r.own:=by
 have hk:(r.ID-1).toNat<r.Views.length:=by have:=h.vl;have:=h.i1;have:=h.i0;omega
 have e:=Go.Ab.own_at (List.getElem?_eq_getElem hk) h.i0
 show _=some (ownOf r.ID r.Views)
 rw[e]
 exact List.getElem?_eq_getElem hk
theorem Repl.Ok.own_mem (h:r.Ok size B):r.own∈r.Views:=List.mem_of_getElem? h.own_at
theorem Repl.Ok.own_ok (h:r.Ok size B):r.own.Ok size B:=h.vs _ h.own_mem
theorem Repl.Ok.own_r (h:r.Ok size B):r.own.R=r.ID:=by
 have:=h.vr _ _ h.own_at;have:=h.i0;omega
theorem Repl.Ok.own_el (h:r.Ok size B):r.own.Epochs.length=size:=h.own_ok.el (by have:=h.o1;omega)
theorem Repl.Ok.setOwn {v:View} (h:r.Ok size B) (hr:v.R=r.ID) (hv:v.Ok size B) (h1:1≤v.Rev):(r.setOwn v).Ok size B where
 i0:=h.i0
 i1:=h.i1
 s5:=h.s5
 sz:=h.sz
 vl:=by simp only[List.length_set];exact h.vl
 vr:=fun i x hx=>by
  by_cases e:(r.ID-1).toNat=i
  ·have hk:(r.ID-1).toNat<r.Views.length:=by have:=h.vl;have:=h.i1;have:=h.i0;omega
   subst e
   simp only[List.getElem?_set_self hk]at hx
   cases hx
   have:=h.i0;omega
  ·simp only[List.getElem?_set_ne e]at hx
   exact h.vr i x hx
 vs:=fun w hw=>by
  rcases List.mem_or_eq_of_mem_set hw with hw|rfl
  ·exact h.vs w hw
  ·exact hv
 o1:=by
  have:=own_set (id:=r.ID) (l:=r.Views) v h.i0 (by have:=h.vl;have:=h.i1;omega)
  show 1≤(ownOf r.ID (r.Views.set (r.ID-1).toNat v)).Rev
  rw[this];exact h1
 hm:=h.hm
theorem Repl.Ok.held {l:List Version} {L N:Int} (h:r.Ok size B) (hl:HeldOk l):({ r with Held:=l,L:=L,N:=N } :Repl).Ok size B:=⟨h.i0,h.i1,h.s5,h.sz,h.vl,h.vr,h.vs,h.o1,hl⟩
theorem Repl.Ok.write {v:Version} (h:r.Ok size B) (hv:v.may=true):(r.write v).Ok size (B+1):=by
 have f:=Version.may_fit hv
 have o:=h.own_ok
 have h1:=(h.mono (B':=B+1) (by omega)).held (l:=putV r.Held v) (L:=v.S.L) (N:=v.S.N) (h.hm.put hv)
 refine h1.setOwn (v:=r.own.wrote v) ?_ ?_ ?_
 ·exact h.own_r
 ·exact⟨putHead_may o.s (by have:=f.i0;simp only;omega) f.i0 f.i1 (Version.may_s hv),o.f,by have:=o.v0;simp only;omega,by have:=o.v1;simp only;omega,fun h0=>by have:=o.v0;simp only at h0;omega,fun _=>h.own_el,fun e he=>by have:=o.e e he;omega⟩
 ·have:=h.o1;simp only;omega
theorem nextStamp_may {l r n:Int} (h:(nextStamp l r n).2=true):(nextStamp l r n).1.may=true:=by
 unfold nextStamp at h ⊢
 split
 ·rename_i hc;exact hc.2.2.2.2
 ·rename_i hc;rw[if_neg hc]at h;cases h
theorem may_stamp {i:Int} {s t:Stamp} {d:Bool} {a:List Attr} {g b:List UInt8} (h:(Version.mk i s d a g b).may=true) (ht:t.may=true):(Version.mk i t d a g b).may=true:=by
 unfold Version.may at h ⊢
 simp only[Bool.and_eq_true]at h ⊢
 exact⟨⟨⟨⟨⟨⟨h.1.1.1.1.1.1,ht⟩,h.1.1.1.1.2⟩,h.1.1.1.2⟩,h.1.1.2⟩,h.1.2⟩,h.2⟩
theorem may_dead {i:Int} {s:Stamp} {d:Bool} {a:List Attr} {g b:List UInt8} (h:(Version.mk i s d a g b).may=true):(Version.mk i s true a g []).may=true:=by
 unfold Version.may at h ⊢
 simp only[Bool.and_eq_true]at h ⊢
 exact⟨⟨⟨⟨⟨⟨h.1.1.1.1.1.1,h.1.1.1.1.1.2⟩,h.1.1.1.1.2⟩,h.1.1.1.2⟩,by simp⟩,by simp⟩,h.2⟩
theorem put_v {item:Int} {attrs:List Attr} {tag body:List UInt8} (h0:(r.put P item attrs tag body).2.2=0):(r.put P item attrs tag body).2.1.may=true∧(r.put P item attrs tag body).1=r.write (r.put P item attrs tag body).2.1:=by
 unfold Repl.put at h0 ⊢
 split at h0
 ·rename_i h1
  split at h0
  ·rename_i h2
   split at h0
   ·simp at h0
   ·rename_i h3
    rw[if_pos h1,if_pos h2,if_neg h3]
    exact⟨may_stamp h1 (nextStamp_may h2),rfl⟩
  ·simp at h0
 ·simp at h0
theorem findV_some {l:List Version} {i:Int} {w:Version} (h:findV l i=some w):w∈l∧w.Item=i:=by
 unfold findV at h
 exact⟨List.mem_of_find?_eq_some h,by simpa using List.find?_some h⟩
theorem delete_v {item:Int} (hm:HeldOk r.Held) (h0:(r.delete item).2.2=0):(r.delete item).2.1.may=true∧(r.delete item).1=r.write (r.delete item).2.1:=by
 unfold Repl.delete at h0 ⊢
 split at h0
 ·simp at h0
 ·rename_i w hw
  split at h0
  ·simp at h0
  ·rename_i hd
   split at h0
   ·rename_i h2
    simp only[if_neg hd,if_pos h2,and_true]
    obtain⟨m1,m2⟩:=findV_some hw
    have hv:=hm.may w m1
    have:w=⟨w.Item,w.S,w.Dead,w.Attrs,w.Tag,w.Body⟩:=rfl
    rw[this,m2]at hv
    exact may_stamp (may_dead hv) (nextStamp_may h2)
   ·simp at h0
theorem Repl.Ok.refilter (hP:P.Short) {text:List UInt8} (h:r.Ok size B) (ht:(P text).2.2=true):(r.refilter text).Ok size (B+1):=by
 have o:=h.own_ok
 refine(h.mono (B':=B+1) (by omega)).setOwn ?_ ?_ ?_
 ·exact h.own_r
 ·refine⟨h.hm.heads,hP _ ht,by have:=o.v0;simp only;omega,by have:=o.v1;simp only;omega,fun h0=>by have:=o.v0;simp only at h0;omega,fun _=>by simp only[incAt,List.length_set];exact h.own_el,fun e he=> ?_⟩
  unfold incAt at he
  rcases List.mem_or_eq_of_mem_set he with he|rfl
  ·have:=o.e e he;omega
  ·have hk:(r.ID-1).toNat<r.own.Epochs.length:=by have:=h.own_el;have:=h.i1;have:=h.i0;omega
   have:=o.e _ (List.getElem_mem hk)
   rw[List.getD_eq_getElem?_getD,List.getElem?_eq_getElem hk,Option.getD_some]
   omega
 ·have:=h.o1;simp only;omega
theorem Repl.Ok.setFilter (hP:P.Short) {text:List UInt8} (h:r.Ok size B):(r.setFilter P text).1.Ok size (B+1):=by
 unfold Repl.setFilter
 split
 ·rename_i h1
  split
  ·exact h.mono (by omega)
  ·exact h.refilter hP h1
 ·exact h.mono (by omega)
theorem mergeV_at:∀ {b a:List View} {i:Nat} {x:View},(mergeV a b)[i]? =some x→∃y,a[i]? =some y∧x.R=y.R
 | [],a,i,x,h=>⟨x,h,rfl⟩
 |v::b,a,i,x,h=>by
  obtain⟨y,hy,hr⟩:=mergeV_at (b:=b) (a:=a.map (takeView v)) (by simpa only[mergeV,List.foldl_cons]using h)
  rw[List.getElem?_map]at hy
  cases ha:a[i]? with
  |none=>rw[ha]at hy;cases hy
  |some z=>
   rw[ha]at hy;cases hy
   refine⟨z,rfl, ?_⟩
   rw[hr]
   unfold takeView
   split
   ·rename_i hc;exact hc.1.symm
   ·rfl
theorem maxes_mem:∀ {x y:List Int} {e:Int},e∈maxes x y→e∈x∨e∈y
 | [],[],e,h=>by cases h
 | [],_::_,e,h=>by cases h
 |a::x,[],e,h=> .inl h
 |a::x,b::y,e,h=>by
  simp only[maxes]at h
  rcases List.mem_cons.1 h with rfl|h
  ·split
   ·exact .inr (List.mem_cons_self ..)
   ·exact .inl (List.mem_cons_self ..)
  ·rcases maxes_mem h with h|h
   ·exact .inl (List.mem_cons_of_mem _ h)
   ·exact .inr (List.mem_cons_of_mem _ h)
theorem epochsOf_in {l:List View} {n:Nat} (hB:0≤B) (h:∀w∈l,∀e∈w.Epochs,0≤e∧e≤B):∀e∈epochsOf l n,0≤e∧e≤B:=by
 have:∀(l:List View) (o:List Int),(∀w∈l,∀e∈w.Epochs,0≤e∧e≤B)→(∀e∈o,0≤e∧e≤B)→∀e∈l.foldl (fun o v=>maxes o v.Epochs) o,0≤e∧e≤B:=by
  intro l
  induction l with
  |nil=>intro o _ ho;exact ho
  |cons v l ih=>
   intro o hl ho
   rw[List.foldl_cons]
   refine ih _ (fun w hw=>hl w (List.mem_cons_of_mem _ hw)) fun e he=> ?_
   rcases maxes_mem he with he|he
   ·exact ho e he
   ·exact hl v (List.mem_cons_self ..) e he
 exact this l _ h fun e he=>by rw[List.eq_of_mem_replicate he];omega
theorem come_keeps {f:Flt} {p:Repl×View} {v:Version} (hv:v.may=true) (hp:HeldOk p.1.Held∧headsMay 0 p.2.Seen=true):
  (HeldOk (Repl.come f p v).1.Held∧headsMay 0 (Repl.come f p v).2.Seen=true)∧(Repl.come f p v).1.ID=p.1.ID∧(Repl.come f p v).1.Size=p.1.Size∧(Repl.come f p v).1.Views=p.1.Views∧(Repl.come f p v).2.R=p.2.R∧(Repl.come f p v).2.Rev=p.2.Rev∧(Repl.come f p v).2.Filter=p.2.Filter∧(Repl.come f p v).2.Epochs=p.2.Epochs:=by
 have ft:=Version.may_fit hv
 obtain⟨⟨ID,Size,L,N,Q,H,Vs⟩,⟨R,Rev,Fi,S,E⟩⟩:=p
 have hput:(HeldOk (putV H v)∧headsMay 0 (putHead S ⟨v.Item,v.S⟩)=true):=⟨hp.1.put hv,putHead_may hp.2 (by have:=ft.i0;simp only;omega) ft.i0 ft.i1 (Version.may_s hv)⟩
 by_cases h1:v.S.cmp (headAt S v.Item)≤0
 ·rw[come_no h1];exact⟨hp,rfl,rfl,rfl,rfl,rfl,rfl,rfl⟩
 ·by_cases h2:f.lets v=true
  ·rw[come_lets h1 h2];exact⟨hput,rfl,rfl,rfl,rfl,rfl,rfl,rfl⟩
  ·by_cases h3:((Repl.mk ID Size (if v.S.L>L then v.S.L else L) N Q H Vs).custody f v.Item:Int)<Q
   ·rw[come_room h1 h3];exact⟨hput,rfl,rfl,rfl,rfl,rfl,rfl,rfl⟩
   ·rw[come_full h1 (by simpa using h2) h3];exact⟨hp,rfl,rfl,rfl,rfl,rfl,rfl,rfl⟩
theorem comes_keep {f:Flt} :∀ {l:List Version} {p:Repl×View},(∀v∈l,v.may=true)→HeldOk p.1.Held∧headsMay 0 p.2.Seen=true→
  (HeldOk (l.foldl (Repl.come f) p).1.Held∧headsMay 0 (l.foldl (Repl.come f) p).2.Seen=true)∧(l.foldl (Repl.come f) p).1.ID=p.1.ID∧(l.foldl (Repl.come f) p).1.Size=p.1.Size∧(l.foldl (Repl.come f) p).1.Views=p.1.Views∧(l.foldl (Repl.come f) p).2.R=p.2.R∧(l.foldl (Repl.come f) p).2.Rev=p.2.Rev∧(l.foldl (Repl.come f) p).2.Filter=p.2.Filter∧(l.foldl (Repl.come f) p).2.Epochs=p.2.Epochs
 | [],p,_,hp=>⟨hp,rfl,rfl,rfl,rfl,rfl,rfl,rfl⟩
 |v::l,p,hl,hp=>by
  obtain⟨a,b1,b2,b3,b4,b5,b6,b7⟩:=come_keeps (f:=f) (hl v (List.mem_cons_self ..)) hp
  obtain⟨c,d1,d2,d3,d4,d5,d6,d7⟩:=comes_keep (f:=f) (l:=l) (fun w hw=>hl w (List.mem_cons_of_mem _ hw)) a
  rw[List.foldl_cons]
  exact⟨c,d1.trans b1,d2.trans b2,d3.trans b3,d4.trans b4,d5.trans b5,d6.trans b6,d7.trans b7⟩
theorem Repl.Ok.takeIn {g:Gossip} (h:r.Ok size B) (hgv:∀w∈g.Views,w.Ok size B) (hg:g.may P r.Size=true):(r.takeIn P g).Ok size (B+1):=by
 have hB:0≤B:=by have:=h.own_ok.v0;have:=h.own_ok.v1;omega
 have gf:=Gossip.may_fit hg
 rw[h.sz]at gf
 have o:=h.own_ok
 have hk:(r.ID-1).toNat<r.Views.length:=by have:=h.vl;have:=h.i1;have:=h.i0;omega
 have h0:({ r with Views:=mergeV r.Views g.Views } :Repl).Views.length=size:=by simp only[mergeV_len];exact h.vl
 have hx:(r.merged g).Ok size B:=by
  refine⟨h.i0,h.i1,h.s5,h.sz,by simp only[List.length_set,mergeV_len];exact h.vl,fun i x hx=> ?_,fun w hw=> ?_, ?_,h.hm⟩
  ·by_cases e:(r.ID-1).toNat=i
   ·subst e
    rw[List.getElem?_set_self (by rw[mergeV_len];exact hk)]at hx
    cases hx
    have:=h.own_r;have:=h.i0;omega
   ·rw[List.getElem?_set_ne e]at hx
    obtain⟨y,hy,hr⟩:=mergeV_at hx
    rw[hr];exact h.vr i y hy
  ·rcases List.mem_or_eq_of_mem_set hw with hw|rfl
   ·rcases mergeV_mem hw with hw|hw
    ·exact h.vs w hw
    ·exact hgv w hw
   ·exact o
  ·have:=own_set (id:=r.ID) (l:=mergeV r.Views g.Views) r.own h.i0 (by rw[mergeV_len];have:=h.vl;have:=h.i1;omega)
   show 1≤(ownOf r.ID ((mergeV r.Views g.Views).set (r.ID-1).toNat r.own)).Rev
   rw[this];exact h.o1
 have hme:∀me:View,me=(r.merged g).meOf (r.merged g).own→headsMay 0 me.Seen=true∧me.R=r.ID∧me.Rev=(r.merged g).own.Rev∧me.Filter=(r.merged g).own.Filter∧me.Epochs.length=size∧∀e∈me.Epochs,0≤e∧e≤B:=by
  rintro me rfl
  have o2:=hx.own_ok
  unfold Repl.meOf
  split
  ·exact⟨o2.s,hx.own_r,rfl,rfl,hx.own_el,o2.e⟩
  ·refine⟨hx.hm.heads,hx.own_r,rfl,rfl, ?_,epochsOf_in (by omega) fun w hw e he=>(hx.vs w hw).e e he⟩
   rw[epochsOf_len]
   have:=hx.sz
   rw[this];exact Int.toNat_natCast _
 obtain⟨m1,m2,m3,m4,m5,m6⟩:=hme _ rfl
 obtain⟨⟨c1,c2⟩,c3,c4,c5,c6,c7,c8,c9⟩:=comes_keep (f:=(r.merged g).flt P) (l:=g.Batch) (p:=(r.merged g,(r.merged g).meOf (r.merged g).own)) gf.bs ⟨hx.hm,m1⟩
 have o2:=hx.own_ok
 unfold Repl.takeIn
 dsimp only
 generalize g.Batch.foldl (Repl.come ((r.merged g).flt P)) (r.merged g,(r.merged g).meOf (r.merged g).own)=p at*
 dsimp only at c3 c4 c5 c6 c7 c8 c9
 have hp:p.1.Ok size (B+1):=by
  refine⟨by rw[c3];exact h.i0,by rw[c3];exact h.i1,h.s5,by rw[c4];exact h.sz,by rw[c5];exact hx.vl,by rw[c5];exact hx.vr, ?_, ?_,c1⟩
  ·rw[c5];exact fun w hw=>(hx.vs w hw).mono (by omega)
  ·show 1≤(ownOf p.1.ID p.1.Views).Rev
   rw[c3,c5];exact hx.o1
 have ho1:=hx.o1
 have hv1:=o2.v1
 have key:∀me:View,me.R=p.2.R→me.Filter=p.2.Filter→me.Seen=p.2.Seen→me.Epochs=p.2.Epochs→(me.Rev=p.2.Rev∨me.Rev=p.2.Rev+1)→(p.1.setOwn me).Ok size (B+1):=by
  intro me e1 e2 e3 e4 e5
  refine hp.setOwn ?_ ⟨?_, ?_, ?_, ?_, ?_, ?_, ?_⟩ ?_
  ·rw[e1,c6,m2,c3]
  ·rw[e3];exact c2
  ·rw[e2,c8,m4];exact o2.f
  ·rw[c7,m3]at e5;omega
  ·rw[c7,m3]at e5;omega
  ·intro h0;rw[c7,m3]at e5;omega
  ·intro _;rw[e4,c9];exact m5
  ·intro e he;rw[e4,c9]at he;have:=m6 e he;omega
  ·rw[c7,m3]at e5;omega
 have hfin:∀me:View,(p.1.setOwn me).Ok size (B+1)→((p.1.setOwn me).sweep P).Ok size (B+1):=fun me hme=>by
  unfold Repl.sweep
  exact⟨hme.i0,hme.i1,hme.s5,hme.sz,hme.vl,hme.vr,hme.vs,hme.o1,hme.hm.filter _⟩
 refine hfin _ ?_
 split
 ·exact key _ rfl rfl rfl rfl (.inl rfl)
 ·exact key _ rfl rfl rfl rfl (.inr rfl)
theorem Repl.Ok.take {g:Gossip} (h:r.Ok size B) (hgv:∀w∈g.Views,w.Ok size B):(r.take P g).1.Ok size (B+1):=by
 unfold Repl.take
 split
 ·rename_i hc
  simp only[Bool.and_eq_true]at hc
  exact h.takeIn hgv hc.1
 ·exact h.mono (by omega)
theorem Repl.Ok.put {item:Int} {attrs:List Attr} {tag body:List UInt8} (h:r.Ok size B) (h0:(r.put P item attrs tag body).2.2=0):(r.put P item attrs tag body).1.Ok size (B+1):=by
 obtain⟨h1,h2⟩:=put_v h0
 rw[h2];exact h.write h1
theorem Repl.Ok.delete {item:Int} (h:r.Ok size B) (h0:(r.delete item).2.2=0):(r.delete item).1.Ok size (B+1):=by
 obtain⟨h1,h2⟩:=delete_v h.hm h0
 rw[h2];exact h.write h1
theorem Repl.Ok.sm (h:r.Ok size B) (hB:B≤1000000000000):r.Sm:=by
 have o:(ownOf r.ID r.Views).Ok size B:=h.own_ok
 have hf:∀v∈r.Held,v.Fit:=fun v hv=>Version.may_fit (h.hm.may v hv)
 refine⟨h.i0,by have:=h.vl;have:=h.i1;omega,by have:=h.vl;have:=h.s5;omega,by have:=h.sz;omega,by have:=h.sz;have:=h.s5;omega,by have:=h.hm.len;omega,fun v hv=>⟨by have:=(hf v hv).al;omega,by have:=(hf v hv).tl;omega⟩,fun v hv=>by have:=(hf v hv).bl;omega,fun w hw=>⟨by have:=(h.vs w hw).slen;omega,by have:=(h.vs w hw).f;omega,by have:=(h.vs w hw).elen;have:=h.s5;omega⟩,fun w hw=>by have:=(h.vs w hw).slen;omega,o.v0,by have:=o.v1;omega, ?_,fun e he=>by have:=o.e e he;omega,by have:=o.slen;omega,by have:=o.f;omega,by have:=h.sz;have:=h.vl;omega,⟨r.own,h.own_mem,by have:=h.o1;omega⟩⟩
 rw[h.vl];exact h.own_el
theorem newRepl_ok {i:Nat} {q:Int} (hi:i<size) (h5:size≤5) (hB:1≤B):(newRepl (i+1) size q).Ok size B:=by
 have hvl:((List.range size).map (newView (i+1) size)).length=size:=by simp
 have hat:∀j,j<size→((List.range size).map (newView (i+1) size))[j]? =some (newView (i+1) size j):=fun j hj=>by
  rw[List.getElem?_map,List.getElem?_range hj];rfl
 have hown:(newRepl (i+1) size q).own=newView (i+1) size i:=Go.Ab.own_at (id:=((i+1:Nat):Int)) (by
  rw[show(((i+1:Nat):Int)-1).toNat=i by omega];exact hat i hi) (by omega)
 refine⟨by simp only[newRepl];omega,by simp only[newRepl];omega,h5,rfl,hvl,fun j x hx=> ?_,fun w hw=> ?_, ?_,⟨fun v hv=>(by cases hv),List.Pairwise.nil⟩⟩
 ·have hj:j<size:=by have:=(List.getElem?_eq_some_iff.1 hx).1;rw[show(newRepl (i+1) size q).Views.length=size from hvl]at this;exact this
  rw[show(newRepl (i+1) size q).Views[j]? =some (newView (i+1) size j)from hat j hj]at hx
  cases hx
  unfold newView;split<;>rfl
 ·obtain⟨j,_,rfl⟩:=List.mem_map.1 (show w∈(List.range size).map (newView (i+1) size)from hw)
  unfold newView;split
  ·exact⟨rfl,by simp,by simp,by simpa using hB,fun h0=>by simp at h0,fun _=>by simp,fun e he=>by rw[List.eq_of_mem_replicate he];omega⟩
  ·exact⟨rfl,by simp,by simp,by simp only;omega,fun _=>rfl,fun h0=>absurd rfl h0,fun e he=>by cases he⟩
 ·rw[hown];unfold newView;rw[if_pos rfl];simp
end
def posOf (l:List Head) (item:Int):Nat:=(l.takeWhile fun x=>decide (x.Item<item)).length
theorem posOf_le (l:List Head) (item:Int):posOf l item≤l.length:=(List.takeWhile_sublist _).length_le
theorem posOf_iff:∀ {l:List Head} {item:Int},l.Pairwise (fun a b=>a.Item<b.Item)→∀(k:Nat) (x:Head),l[k]? =some x→(k<posOf l item↔x.Item<item)
 | [],item,_,k,x,h=>by simp at h
 |y::l,item,hp,k,x,h=>by
  obtain⟨h1,h2⟩:=List.pairwise_cons.1 hp
  unfold posOf
  by_cases hy:y.Item<item
  ·simp only[List.takeWhile_cons,hy,decide_true,if_true,List.length_cons]
   cases k with
   |zero=>simp at h;subst h;simp[hy]
   |succ k=>
    have:=posOf_iff (item:=item) h2 k x (by simpa using h)
    unfold posOf at this
    omega
  ·simp only[List.takeWhile_cons,hy,decide_false,Bool.false_eq_true,if_false,List.length_nil,Nat.not_lt_zero,false_iff]
   cases k with
   |zero=>simp at h;subst h;exact hy
   |succ k=>
    have:=h1 x (List.mem_of_getElem? (by simpa using h))
    omega
theorem headAt_found {l:List Head} {item:Int} {x:Head} (hp:l.Pairwise (fun a b=>a.Item<b.Item)) (h:l[posOf l item]? =some x) (hx:x.Item=item):headAt l item=x.S:=by
 have hf:l.find? (fun h=>decide (h.Item=item))=some x:=by
  rw[List.find?_eq_some_iff_getElem]
  refine⟨by simp[hx],posOf l item,(List.getElem?_eq_some_iff.1 h).1,(List.getElem?_eq_some_iff.1 h).2,fun j hj=> ?_⟩
  have hl:=(List.getElem?_eq_some_iff.1 h).1
  have:=(posOf_iff (item:=item) hp j _ (List.getElem?_eq_getElem (by omega))).1 hj
  simp;omega
 unfold headAt;rw[hf];rfl
theorem headAt_none {l:List Head} {item:Int} (hp:l.Pairwise (fun a b=>a.Item<b.Item)) (h:∀x,l[posOf l item]? =some x→x.Item≠item):headAt l item=⟨0,0,0⟩:=by
 have hf:l.find? (fun h=>decide (h.Item=item))=none:=by
  rw[List.find?_eq_none]
  intro x hx
  obtain⟨k,hk,rfl⟩:=List.getElem_of_mem hx
  have h1:=posOf_iff (item:=item) hp k _ (List.getElem?_eq_getElem hk)
  simp only[decide_eq_true_eq]
  intro he
  have h2:¬k<posOf l item:=fun hlt=>by have:=h1.1 hlt;omega
  by_cases e:k=posOf l item
  ·exact h _ (by rw[←e];exact List.getElem?_eq_getElem hk) he
  ·have hlt:posOf l item<l.length:=by omega
   have h3:=posOf_iff (item:=item) hp (posOf l item) _ (List.getElem?_eq_getElem hlt)
   have h4:=h _ (List.getElem?_eq_getElem hlt)
   have h5:=List.pairwise_iff_getElem.1 hp (posOf l item) k hlt hk (by omega)
   have h6:¬l[posOf l item].Item<item:=fun hc=>by have:=h3.2 hc;omega
   omega
 unfold headAt;rw[hf];rfl
end Go.Ab
namespace Go.Ab
open Go
theorem items_one {l:List Version} (ho:l.Pairwise (fun a b=>a.Item<b.Item)) {v w:Version} (hv:v∈l) (hw:w∈l) (h:v.Item=w.Item):v=w:=by
 induction ho with
 |nil=>cases hv
 |cons h1 h2 ih=>
  rcases List.mem_cons.1 hv with rfl|hv'
  ·rcases List.mem_cons.1 hw with rfl|hw'
   ·rfl
   ·have:=h1 _ hw';omega
  ·rcases List.mem_cons.1 hw with rfl|hw'
   ·have:=h1 _ hv';omega
   ·exact ih hv' hw'
def outsF (f:Flt) (l:List Version):List Version:=l.filter fun v=> !f.lets v
def sweptTo (p:Version→Bool) (o H:List Version):List Version:=H.filter fun x=> !(o.any fun v=>p v&&decide (v.Item=x.Item))
theorem sweptTo_zero (p:Version→Bool) (H:List Version):sweptTo p [] H=H:=by simp[sweptTo]
theorem sweptTo_yes {p:Version→Bool} {H o:List Version} {k:Nat} {v:Version} (h:o[k]? =some v) (hp:p v=true):(sweptTo p (o.take k) H).filter (fun x=>decide (x.Item≠v.Item))=sweptTo p (o.take (k+1)) H:=by
 unfold sweptTo
 rw[take_succ h,List.filter_filter]
 refine List.filter_congr fun x _=> ?_
 rw[List.any_append,Bool.not_or]
 simp only[List.any_cons,List.any_nil,Bool.or_false,hp,Bool.true_and]
 by_cases c:v.Item=x.Item
 ·simp[c]
 ·simp[c,Ne.symm c]
theorem sweptTo_no {p:Version→Bool} {H o:List Version} {k:Nat} {v:Version} (h:o[k]? =some v) (hp:p v=false):sweptTo p (o.take (k+1)) H=sweptTo p (o.take k) H:=by
 unfold sweptTo
 rw[take_succ h]
 simp[hp]
theorem sweptTo_all {p:Version→Bool} {H:List Version} {f:Flt} (ho:H.Pairwise (fun a b=>a.Item<b.Item)):sweptTo p (outsF f H) H=H.filter fun v=>f.lets v|| !p v:=by
 refine List.filter_congr fun x hx=> ?_
 cases hl:f.lets x with
 |true=>
  simp only[Bool.true_or,Bool.not_eq_true']
  rw[List.any_eq_false]
  intro v hv hc
  obtain⟨h1,h2⟩:=List.mem_filter.1 hv
  simp only[Bool.and_eq_true,decide_eq_true_eq]at hc
  rw[items_one ho h1 hx hc.2,hl]at h2
  cases h2
 |false=>
  simp only[Bool.false_or]
  congr 1
  cases hp:p x with
  |true=>exact List.any_eq_true.2 ⟨x,List.mem_filter.2 ⟨hx,by simp[hl]⟩,by simp[hp]⟩
  |false=>
   rw[List.any_eq_false]
   intro v hv hc
   obtain⟨h1,h2⟩:=List.mem_filter.1 hv
   simp only[Bool.and_eq_true,decide_eq_true_eq]at hc
   rw[items_one ho h1 hx hc.2,hp]at hc
   cases hc.1
theorem sweptTo_len (p:Version→Bool) (o H:List Version):(sweptTo p o H).length≤H.length:=List.length_filter_le _ _
theorem sweptTo_mem {p:Version→Bool} {o H:List Version} {v:Version} (h:v∈sweptTo p o H):v∈H:=(List.mem_filter.1 h).1
theorem nought_out {l:List Version} (h:∀v∈l,1≤v.Item):(l.filter fun v=>decide (v.Item≠0))=l:=by
 rw[List.filter_eq_self]
 intro v hv;have:=h v hv;simp;omega
theorem sweep_twice (P:Prs) (r:Repl):(r.sweep P).sweep P=r.sweep P:=by
 unfold Repl.sweep
 simp only[Repl.mk.injEq,true_and,and_true]
 rw[List.filter_filter]
 refine List.filter_congr fun v _=> ?_
 show(((r.flt P).lets v|| !r.known P v)&&((r.flt P).lets v|| !r.known P v))=_
 rw[Bool.and_self]
theorem HeldOk.last {l:List Version} (h:∀v∈l,v.may=true):HeldOk (l.foldl putV []):=by
 have:∀(l o:List Version),(∀v∈l,v.may=true)→HeldOk o→HeldOk (l.foldl putV o):=by
  intro l
  induction l with
  |nil=>intro o _ ho;exact ho
  |cons v l ih=>intro o hl ho;exact ih _ (fun w hw=>hl w (List.mem_cons_of_mem _ hw)) (ho.put (hl v (List.mem_cons_self ..)))
 exact this l [] h ⟨fun v hv=>(by cases hv),List.Pairwise.nil⟩
def lastM (l:List Version):List Version:=l.foldl putV []
theorem lastM_succ {l:List Version} {k:Nat} {v:Version} (h:l[k]? =some v):lastM (l.take (k+1))=putV (lastM (l.take k)) v:=by
 unfold lastM;rw[take_succ h,List.foldl_append];rfl
theorem knows_inv {size:Nat} {mine:List Int} {v:Version} {w:View} (h:w.knows size mine v=true):w.Rev≠0∧¬(headAt w.Seen v.Item).cmp v.S<0∧∀k,k<size→mine.getD k 0≤w.Epochs.getD k 0:=by
 unfold View.knows at h
 simp only[Bool.and_eq_true,decide_eq_true_eq,Bool.not_eq_true',decide_eq_false_iff_not,List.all_eq_true,List.mem_range]at h
 exact⟨h.1.1.1,h.1.1.2,fun k hk=>by have:=h.2 k hk;omega⟩
theorem known_inv {P:Prs} {r:Repl} {v:Version} (h:r.known P v=true):(∀w∈r.Views,w.knows r.Size.toNat r.own.Epochs v=true)∧∃w∈r.Views,(P w.Filter).1.lets v=true:=by
 unfold Repl.known at h
 simp only[Bool.and_eq_true,List.all_eq_true,List.any_eq_true]at h
 exact h
def idxOf {T:Type} (p:T→Bool):List T→Int
 | [] => -1
 |x::l=>if p x then 0 else if idxOf p l<0 then-1 else idxOf p l+1
theorem idxOf_any {T:Type} (p:T→Bool):∀l:List T,(0≤idxOf p l)=(l.any p=true)
 | [] =>by simp[idxOf]
 |x::l=>by
  have ih:=idxOf_any p l
  unfold idxOf
  cases c:p x with
  |true=>simp[c]
  |false=>
   simp only[List.any_cons,c,Bool.false_or,←ih,Bool.false_eq_true,if_false]
   by_cases h:idxOf p l<0
   ·rw[if_pos h];simp;omega
   ·rw[if_neg h];simp;omega
theorem idxOf_dec {T:Type} (p:T→Bool) (l:List T):decide (0≤idxOf p l)=l.any p:=by
 rw[Bool.eq_iff_iff,decide_eq_true_eq,idxOf_any]
theorem idxOf_found {T:Type} {p:T→Bool} :∀ {l:List T} {k:Nat} {x:T},l[k]? =some x→p x=true→(l.take k).any p=false→idxOf p l=k
 |y::l,0,x,h,hp,_=>by simp at h;subst h;simp[idxOf,hp]
 |y::l,k+1,x,h,hp,hn=>by
  simp only[List.take_succ_cons,List.any_cons,Bool.or_eq_false_iff]at hn
  have ih:=idxOf_found (l:=l) (k:=k) (by simpa using h) hp hn.2
  unfold idxOf
  rw[hn.1,ih];simp;omega
theorem idxOf_none {T:Type} {p:T→Bool} :∀ {l:List T},l.any p=false→idxOf p l= -1
 | [],_=>rfl
 |y::l,hn=>by
  simp only[List.any_cons,Bool.or_eq_false_iff]at hn
  unfold idxOf
  rw[hn.1,idxOf_none hn.2];simp
theorem any_next {T:Type} {p:T→Bool} {l:List T} {k:Nat} {x:T} (h:l[k]? =some x) (hp:p x=false) (hn:(l.take k).any p=false):(l.take (k+1)).any p=false:=by
 rw[take_succ h,List.any_append,hn];simp[hp]
end Go.Ab
namespace Go.Ab
open Go
def mrg (b:List View) (x:View):View:=b.foldl (fun x v=>takeView v x) x
theorem mrg_cons (v:View) (b:List View) (x:View):mrg (v::b) x=mrg b (takeView v x):=rfl
theorem mergeV_map:∀(b a:List View),mergeV a b=a.map (mrg b)
 | [],a=>(show a=a.map (fun x=>x)from(List.map_id' a).symm)
 |v::b,a=>by
  have ih:=mergeV_map b (a.map (takeView v))
  simp only[mergeV,List.foldl_cons]at ih ⊢
  rw[ih,List.map_map]
  refine List.map_congr_left fun x _=> ?_
  simp[mrg_cons]
theorem headAt_cons (x:Head) (l:List Head) (i:Int):headAt (x::l) i=if x.Item=i then x.S else headAt l i:=by
 unfold headAt
 rw[List.find?_cons]
 by_cases h:x.Item=i<;>simp[h]
theorem headAt_filter_ne:∀(l:List Head) (i j:Int),i≠j→headAt (l.filter fun y=>decide (y.Item≠j)) i=headAt l i
 | [],i,j,_=>rfl
 |x::l,i,j,h=>by
  have ih:=headAt_filter_ne l i j h
  by_cases c:x.Item=j
  ·rw[List.filter_cons_of_neg (by simp[c]),ih,headAt_cons,if_neg (by omega)]
  ·rw[List.filter_cons_of_pos (by simp[c]),headAt_cons,headAt_cons,ih]
theorem headAt_insGo:∀ {l:List Head} (h:Head) (i:Int),l.Pairwise (fun a b=>a.Item<b.Item)→headAt (insGo l h) i=if h.Item=i then h.S else headAt l i
 | [],h,i,_=>by simp[insGo,headAt_cons]
 |x::l,h,i,hp=>by
  obtain⟨p1,p2⟩:=List.pairwise_cons.1 hp
  unfold insGo
  split
  ·rename_i c
   rw[headAt_cons]
   by_cases e:h.Item=i
   ·rw[if_pos e,if_pos e]
   ·rw[if_neg e,if_neg e,headAt_filter_ne _ _ _ (by omega)]
  ·rename_i c
   rw[headAt_cons,headAt_cons,headAt_insGo h i p2]
   by_cases e:x.Item=i
   ·rw[if_pos e,if_neg (by omega),if_pos e]
   ·rw[if_neg e,if_neg e]
theorem headAt_put {l:List Head} (h:Head) (i:Int) (hp:l.Pairwise (fun a b=>a.Item<b.Item)):headAt (putHead l h) i=if h.Item=i∧0<h.S.cmp (headAt l i)then h.S else headAt l i:=by
 unfold putHead
 by_cases c:h.S.cmp (headAt l h.Item)≤0
 ·rw[if_pos c]
  by_cases e:h.Item=i
  ·subst e;rw[if_neg (fun q=>by have:=q.2;omega)]
  ·rw[if_neg (fun q=>e q.1)]
 ·rw[if_neg c,headAt_insGo h i hp]
  by_cases e:h.Item=i
  ·subst e;rw[if_pos rfl,if_pos ⟨rfl,by omega⟩]
  ·rw[if_neg e,if_neg (fun q=>e q.1)]
theorem cmp_self (a:Stamp):a.cmp a=0:=(cmp_zero a a).2 rfl
theorem cmp_le_trans {a b c:Stamp} (h1:a.cmp b≤0) (h2:b.cmp c≤0):a.cmp c≤0:=by
 by_cases h:a.cmp c≤0
 ·exact h
 ·have e1:0<a.cmp c:=by omega
  have n1:=cmp_neg a b
  have n2:=cmp_neg b c
  by_cases q1:b.cmp a=0
  ·have:=(cmp_zero _ _).1 q1;subst this;omega
  ·have:=cmp_trans b a c (by omega) e1;omega
theorem headAt_grows {l:List Head} (h:Head) (i:Int) (hp:l.Pairwise (fun a b=>a.Item<b.Item)):(headAt l i).cmp (headAt (putHead l h) i)≤0:=by
 rw[headAt_put h i hp]
 split
 ·rename_i c;have:=cmp_neg h.S (headAt l i);omega
 ·rw[cmp_self];exact Int.le_refl _
structure Came (f:Flt) (p q:Repl×View):Prop where
 id:q.1.ID=p.1.ID
 sz:q.1.Size=p.1.Size
 n:q.1.N=p.1.N
 qu:q.1.Quota=p.1.Quota
 vs:q.1.Views=p.1.Views
 l:p.1.L≤q.1.L
 r:q.2.R=p.2.R
 rev:q.2.Rev=p.2.Rev
 fi:q.2.Filter=p.2.Filter
 ep:q.2.Epochs=p.2.Epochs
 seen:∀i,(headAt p.2.Seen i).cmp (headAt q.2.Seen i)≤0
theorem Came.refl (f:Flt) (p:Repl×View):Came f p p:=⟨rfl,rfl,rfl,rfl,rfl,Int.le_refl _,rfl,rfl,rfl,rfl,fun i=>by rw[cmp_self];exact Int.le_refl _⟩
theorem Came.trans {f:Flt} {p q s:Repl×View} (h:Came f p q) (h':Came f q s):Came f p s:=
 ⟨h'.id.trans h.id,h'.sz.trans h.sz,h'.n.trans h.n,h'.qu.trans h.qu,h'.vs.trans h.vs,Int.le_trans h.l h'.l,h'.r.trans h.r,h'.rev.trans h.rev,h'.fi.trans h.fi,h'.ep.trans h.ep,fun i=>cmp_le_trans (h.seen i) (h'.seen i)⟩
theorem come_came (f:Flt) (p:Repl×View) (v:Version) (hp:p.2.Seen.Pairwise (fun a b=>a.Item<b.Item)):Came f p (Repl.come f p v):=by
 obtain⟨⟨ID,Size,L,N,Q,H,Vs⟩,⟨R,Rev,Fi,S,E⟩⟩:=p
 have hL:L≤(if v.S.L>L then v.S.L else L):=by split<;>omega
 have rf:∀i,(headAt S i).cmp (headAt S i)≤0:=fun i=>by rw[cmp_self];exact Int.le_refl _
 by_cases h1:v.S.cmp (headAt S v.Item)≤0
 ·rw[come_no h1];exact⟨rfl,rfl,rfl,rfl,rfl,hL,rfl,rfl,rfl,rfl,rf⟩
 ·by_cases h2:f.lets v=true
  ·rw[come_lets h1 h2];exact⟨rfl,rfl,rfl,rfl,rfl,hL,rfl,rfl,rfl,rfl,fun i=>headAt_grows _ i hp⟩
  ·by_cases h3:((Repl.mk ID Size (if v.S.L>L then v.S.L else L) N Q H Vs).custody f v.Item:Int)<Q
   ·rw[come_room h1 h3];exact⟨rfl,rfl,rfl,rfl,rfl,hL,rfl,rfl,rfl,rfl,fun i=>headAt_grows _ i hp⟩
   ·rw[come_full h1 (by simpa using h2) h3];exact⟨rfl,rfl,rfl,rfl,rfl,hL,rfl,rfl,rfl,rfl,rf⟩
theorem come_L (f:Flt) (p:Repl×View) (v:Version):v.S.L≤(Repl.come f p v).1.L:=by
 obtain⟨⟨ID,Size,L,N,Q,H,Vs⟩,⟨R,Rev,Fi,S,E⟩⟩:=p
 have hL:v.S.L≤(if v.S.L>L then v.S.L else L):=by split<;>omega
 by_cases h1:v.S.cmp (headAt S v.Item)≤0
 ·rw[come_no h1];exact hL
 ·by_cases h2:f.lets v=true
  ·rw[come_lets h1 h2];exact hL
  ·by_cases h3:((Repl.mk ID Size (if v.S.L>L then v.S.L else L) N Q H Vs).custody f v.Item:Int)<Q
   ·rw[come_room h1 h3];exact hL
   ·rw[come_full h1 (by simpa using h2) h3];exact hL
theorem comes_came (f:Flt):∀(l:List Version) (p:Repl×View),(∀v∈l,v.may=true)→HeldOk p.1.Held→headsMay 0 p.2.Seen=true→Came f p (l.foldl (Repl.come f) p)∧∀v∈l,v.S.L≤(l.foldl (Repl.come f) p).1.L
 | [],p,_,_,_=>⟨Came.refl f p,fun v hv=>by cases hv⟩
 |v::l,p,hl,h1,h2=>by
  obtain⟨⟨a1,a2⟩,-⟩:=come_keeps (f:=f) (hl v (List.mem_cons_self ..)) ⟨h1,h2⟩
  have c:=come_came f p v (headsMay_iff.1 h2).2
  obtain⟨d,e⟩:=comes_came f l (Repl.come f p v) (fun w hw=>hl w (List.mem_cons_of_mem _ hw)) a1 a2
  rw[List.foldl_cons]
  refine⟨c.trans d,fun w hw=> ?_⟩
  rcases List.mem_cons.1 hw with rfl|hw
  ·have:=come_L f p w;have:=d.l;omega
  ·exact e w hw
section
variable {P:Prs} {size:Nat} {B:Int} {r:Repl} {g:Gossip}
theorem Repl.Ok.own_lt (h:r.Ok size B):(r.ID-1).toNat<r.Views.length:=by have:=h.vl;have:=h.i1;have:=h.i0;omega
theorem merged_own (h:r.Ok size B):(r.merged g).own=r.own:=
 own_set (id:=r.ID) _ h.i0 (by rw[mergeV_len];have:=h.vl;have:=h.i1;omega)
theorem merged_flt (h:r.Ok size B):(r.merged g).flt P=r.flt P:=by
 unfold Repl.flt;rw[merged_own h]
abbrev Repl.me0 (r:Repl) (g:Gossip):View:=(r.merged g).meOf (r.merged g).own
abbrev Repl.came (P:Prs) (r:Repl) (g:Gossip):Repl×View:=g.Batch.foldl (Repl.come ((r.merged g).flt P)) (r.merged g,r.me0 g)
def Repl.me1 (P:Prs) (r:Repl) (g:Gossip):View:=if(r.came P g).2.Seen=r.own.Seen∧(r.came P g).2.Epochs=r.own.Epochs then(r.came P g).2 else { (r.came P g).2 with Rev:=(r.came P g).2.Rev+1 }
theorem takeIn_eq (P:Prs) (r:Repl) (g:Gossip):r.takeIn P g=(((r.came P g).1.setOwn (r.me1 P g)).sweep P):=rfl
abbrev Repl.eps (r:Repl) (g:Gossip):List Int:=epochsOf (r.merged g).Views r.Size.toNat
theorem me0_ep:(r.me0 g).Epochs=r.eps g:=by
 show((r.merged g).meOf (r.merged g).own).Epochs=_
 unfold Repl.meOf
 split
 ·rename_i c;exact c.symm
 ·rfl
theorem me0_rev (h:r.Ok size B):(r.me0 g).R=r.own.R∧(r.me0 g).Rev=r.own.Rev∧(r.me0 g).Filter=r.own.Filter:=by
 show((r.merged g).meOf (r.merged g).own).R=_∧((r.merged g).meOf (r.merged g).own).Rev=_∧((r.merged g).meOf (r.merged g).own).Filter=_
 unfold Repl.meOf
 rw[merged_own h]
 split<;>exact⟨rfl,rfl,rfl⟩
theorem me0_seen (h:r.Ok size B):(r.eps g=r.own.Epochs∧(r.me0 g).Seen=r.own.Seen)∨(r.eps g≠r.own.Epochs∧(r.me0 g).Seen=headsOf r.Held):=by
 have e:(r.me0 g).Seen=((r.merged g).meOf (r.merged g).own).Seen:=rfl
 rw[e]
 unfold Repl.meOf
 rw[merged_own h]
 by_cases c:epochsOf (r.merged g).Views r.Size.toNat=r.own.Epochs
 ·rw[if_pos c];exact .inl ⟨c,rfl⟩
 ·rw[if_neg c];exact .inr ⟨c,rfl⟩
theorem me0_may (h:r.Ok size B):headsMay 0 (r.me0 g).Seen=true:=by
 rcases me0_seen (g:=g) h with⟨-,e⟩|⟨-,e⟩<;>rw[e]
 ·exact h.own_ok.s
 ·exact h.hm.heads
theorem came_all (h:r.Ok size B) (hg:g.may P r.Size=true):Came ((r.merged g).flt P) (r.merged g,r.me0 g) (r.came P g)∧∀v∈g.Batch,v.S.L≤(r.came P g).1.L:=
 comes_came _ g.Batch _ (Gossip.may_fit hg).bs h.hm (me0_may h)
theorem merged_views (r:Repl) (g:Gossip):(r.merged g).Views=(r.Views.map (mrg g.Views)).set (r.ID-1).toNat r.own:=by
 show(mergeV r.Views g.Views).set _ _=_
 rw[mergeV_map]
theorem me1_parts (P:Prs) (r:Repl) (g:Gossip):(r.me1 P g).R=(r.came P g).2.R∧(r.me1 P g).Filter=(r.came P g).2.Filter∧(r.me1 P g).Seen=(r.came P g).2.Seen∧(r.me1 P g).Epochs=(r.came P g).2.Epochs:=by
 unfold Repl.me1;split<;>exact⟨rfl,rfl,rfl,rfl⟩
structure Took (P:Prs) (r:Repl) (g:Gossip) (a:Repl):Prop where
 id:a.ID=r.ID
 sz:a.Size=r.Size
 n:a.N=r.N
 qu:a.Quota=r.Quota
 l:r.L≤a.L
 lb:∀v∈g.Batch,v.S.L≤a.L
 vs:a.Views=(r.Views.map (mrg g.Views)).set (r.ID-1).toNat (r.me1 P g)
 own:a.own=r.me1 P g
 held:a.Held=((r.came P g).1.setOwn (r.me1 P g)).Held.filter fun v=>(r.flt P).lets v|| !((r.came P g).1.setOwn (r.me1 P g)).known P v
theorem took (h:r.Ok size B) (hg:g.may P r.Size=true):Took P r g (r.takeIn P g):=by
 obtain⟨c,cl⟩:=came_all h hg
 have hv:((r.came P g).1.setOwn (r.me1 P g)).Views=(r.Views.map (mrg g.Views)).set (r.ID-1).toNat (r.me1 P g):=by
  show(r.came P g).1.Views.set ((r.came P g).1.ID-1).toNat _=_
  rw[c.vs,c.id]
  show(r.merged g).Views.set _ _=_
  rw[merged_views,List.set_set]
 have ho:((r.came P g).1.setOwn (r.me1 P g)).own=r.me1 P g:=by
  refine own_set _ ?_ ?_
  ·rw[c.id];exact h.i0
  ·rw[c.vs,c.id]
   show r.ID≤((r.merged g).Views.length:Int)
   rw[merged_views];simp only[List.length_set,List.length_map];have:=h.vl;have:=h.i1;omega
 have hf:((r.came P g).1.setOwn (r.me1 P g)).flt P=r.flt P:=by
  unfold Repl.flt
  rw[ho,(me1_parts P r g).2.1,c.fi,(me0_rev h).2.2]
 rw[takeIn_eq]
 refine⟨c.id,c.sz,c.n,c.qu,c.l,cl,hv,ho, ?_⟩
 unfold Repl.sweep
 simp only[hf]
theorem Took.seen {a:Repl} (h:r.Ok size B) (hg:g.may P r.Size=true) (t:Took P r g a) (i:Int):(headAt (r.me0 g).Seen i).cmp (headAt a.own.Seen i)≤0:=by
 rw[t.own,(me1_parts P r g).2.2.1];exact(came_all h hg).1.seen i
theorem Took.ep {a:Repl} (h:r.Ok size B) (hg:g.may P r.Size=true) (t:Took P r g a):a.own.Epochs=r.eps g:=by
 rw[t.own,(me1_parts P r g).2.2.2,(came_all h hg).1.ep];exact me0_ep
theorem Took.rev {a:Repl} (h:r.Ok size B) (hg:g.may P r.Size=true) (t:Took P r g a):a.own.R=r.own.R∧a.own.Filter=r.own.Filter∧((a.own.Seen=r.own.Seen∧a.own.Epochs=r.own.Epochs∧a.own.Rev=r.own.Rev)∨(¬(a.own.Seen=r.own.Seen∧a.own.Epochs=r.own.Epochs)∧a.own.Rev=r.own.Rev+1)):=by
 have c:=(came_all h hg).1
 obtain⟨m1,m2,m3⟩:=me0_rev (g:=g) h
 obtain⟨q1,q2,q3,q4⟩:=me1_parts P r g
 rw[t.own]
 refine⟨by rw[q1,c.r,m1],by rw[q2,c.fi,m3], ?_⟩
 rw[q3,q4]
 unfold Repl.me1
 split
 ·rename_i e;exact .inl ⟨e.1,e.2,by rw[c.rev,m2]⟩
 ·rename_i e;exact .inr ⟨e,by show(r.came P g).2.Rev+1=_;rw[c.rev,m2]⟩
theorem own_in (h:r.Ok size B):r.own∈(r.merged g).Views:=by
 rw[merged_views]
 exact List.mem_iff_getElem?.2 ⟨_,List.getElem?_set_self (by rw[List.length_map];exact h.own_lt)⟩
end
end Go.Ab
namespace Go.Ab
open Go
def HIn (iss:List Version) (h:Head):Prop:=∃v∈iss,(⟨v.Item,v.S⟩:Head)=h
theorem HIn.mono {i j:List Version} {h:Head} (hh:HIn i h) (hs:∀v∈i,v∈j):HIn j h:=by
 obtain⟨v,hv,e⟩:=hh;exact⟨v,hs v hv,e⟩
def goodF:List (List UInt8):=[42]::wants
structure View.Fk (w:View):Prop where
 z:w.Rev=0→w.Filter= [] ∧w.Seen= [] ∧w.Epochs= []
 f:w.Rev≠0→w.Filter∈goodF
def OIn (ov:Int→View) (w:View):Prop:=w.Rev≤(ov w.R).Rev∧(w.Rev=(ov w.R).Rev→w=ov w.R)
structure Lore where
 iss:List Version
 ov:Int→View
structure Lore.Le (a b:Lore):Prop where
 iss:∀v∈a.iss,v∈b.iss
 ov:∀w,OIn a.ov w→OIn b.ov w
structure Repl.In (L:Lore) (r:Repl):Prop where
 seen:∀w∈r.Views,∀h∈w.Seen,HIn L.iss h
 held:∀v∈r.Held,v∈L.iss
 fil:∀w∈r.Views,w.Fk
 vc:∀w∈r.Views,OIn L.ov w
structure Gossip.In (size:Nat) (B:Int) (L:Lore) (g:Gossip):Prop where
 seen:∀w∈g.Views,∀h∈w.Seen,HIn L.iss h
 batch:∀v∈g.Batch,v∈L.iss
 fil:∀w∈g.Views,w.Fk
 ok:∀w∈g.Views,w.Ok size B
 vc:∀w∈g.Views,OIn L.ov w
theorem insGo_sub:∀ {l:List Head} {h a:Head},a∈insGo l h→a∈l∨a=h
 | [],h,a,ha=> .inr (by simpa[insGo]using ha)
 |x::l,h,a,ha=>by
  unfold insGo at ha
  split at ha
  ·rcases List.mem_cons.1 ha with rfl|ha
   ·exact .inr rfl
   ·exact .inl (List.mem_filter.1 ha).1
  ·rcases List.mem_cons.1 ha with rfl|ha
   ·exact .inl (List.mem_cons_self ..)
   ·rcases insGo_sub ha with h|h
    ·exact .inl (List.mem_cons_of_mem _ h)
    ·exact .inr h
theorem putHead_sub {l:List Head} {h a:Head} (ha:a∈putHead l h):a∈l∨a=h:=by
 unfold putHead at ha;split at ha
 ·exact .inl ha
 ·exact insGo_sub ha
section
variable {P:Prs} {L:Lore} {iss:List Version} {r:Repl}
theorem Lore.Le.refl (L:Lore):L.Le L:=⟨fun _ h=>h,fun _ h=>h⟩
theorem oin_self {ov:Int→View} {w:View} (h:ov w.R=w):OIn ov w:=⟨by rw[h];exact Int.le_refl _,fun _=>h.symm⟩
theorem Repl.In.mono {M:Lore} (h:r.In L) (hs:L.Le M):r.In M:=⟨fun w hw x hx=>(h.seen w hw x hx).mono hs.iss,fun v hv=>hs.iss v (h.held v hv),h.fil,fun w hw=>hs.ov w (h.vc w hw)⟩
theorem Gossip.In.mono {size:Nat} {B B':Int} {M:Lore} {g:Gossip} (h:g.In size B L) (hb:B≤B') (hs:L.Le M):g.In size B' M:=⟨fun w hw x hx=>(h.seen w hw x hx).mono hs.iss,fun v hv=>hs.iss v (h.batch v hv),h.fil,fun w hw=>(h.ok w hw).mono hb,fun w hw=>hs.ov w (h.vc w hw)⟩
theorem Repl.In.setOwn {v:View} (h:r.In L) (hv:∀x∈v.Seen,HIn L.iss x) (hf:v.Fk) (ho:OIn L.ov v):(r.setOwn v).In L:=by
 refine⟨fun w hw=> ?_,h.held,fun w hw=> ?_,fun w hw=> ?_⟩
 rotate_left
 rotate_left
 ·rcases List.mem_or_eq_of_mem_set hw with hw|rfl
  ·exact h.vc w hw
  ·exact ho
 ·rcases List.mem_or_eq_of_mem_set hw with hw|rfl
  ·exact h.seen w hw
  ·exact hv
 ·rcases List.mem_or_eq_of_mem_set hw with hw|rfl
  ·exact h.fil w hw
  ·exact hf
theorem Repl.In.fown {size:Nat} {B:Int} (h:r.In L) (ho:r.Ok size B) {v:View} (h1:v.Filter=r.own.Filter) (h2:v.Rev≠0):v.Fk:=
 ⟨fun h0=>absurd h0 h2,fun _=>by rw[h1];exact(h.fil _ ho.own_mem).f (by have:=ho.o1;omega)⟩
theorem put_sub {l:List Head} {v:Version} (hl:∀x∈l,HIn iss x) (hv:v∈iss):∀x∈putHead l ⟨v.Item,v.S⟩,HIn iss x:=fun x hx=>by
 rcases putHead_sub hx with hx|rfl
 ·exact hl x hx
 ·exact⟨v,hv,rfl⟩
theorem heads_sub {l:List Version} (hl:∀v∈l,v∈iss):∀x∈headsOf l,HIn iss x:=fun x hx=>by
 obtain⟨v,hv,e⟩:=List.mem_map.1 hx
 exact⟨v,hl v hv,e⟩
theorem Repl.In.write {size:Nat} {B:Int} {v:Version} (h:r.In L) (ho:r.Ok size B) (hv:v∈L.iss) (hov:OIn L.ov (r.own.wrote v)):(r.write v).In L:=by
 refine Repl.In.setOwn (r:=r.hold v) ⟨h.seen,fun w hw=> ?_,h.fil,h.vc⟩ (put_sub (h.seen _ ho.own_mem) hv) (h.fown ho rfl (by have:=ho.o1;simp only;omega)) hov
 rcases putV_mem hw with hw|rfl
 ·exact h.held w hw
 ·exact hv
theorem Repl.In.setFilter {size:Nat} {B:Int} {text:List UInt8} (h:r.In L) (ho:r.Ok size B) (ht:text∈goodF) (hov:OIn L.ov (r.setFilter P text).1.own):(r.setFilter P text).1.In L:=by
 unfold Repl.setFilter at hov ⊢
 split at hov
 ·split at hov
  ·rename_i c1 c2;rw[if_pos c1,if_pos c2];exact h
  ·rename_i c1 c2
   rw[if_pos c1,if_neg c2]
   refine h.setOwn (heads_sub h.held) ⟨fun h0=>by have:=ho.o1;simp only at h0;omega,fun _=>ht⟩ ?_
   have e:=own_set (id:=r.ID) (l:=r.Views) ⟨r.own.R,r.own.Rev+1,text,headsOf r.Held,incAt r.own.Epochs (r.ID-1).toNat⟩ ho.i0 (by have:=ho.vl;have:=ho.i1;omega)
   have e2:(r.refilter text).own=⟨r.own.R,r.own.Rev+1,text,headsOf r.Held,incAt r.own.Epochs (r.ID-1).toNat⟩:=e
   rw[←e2];exact hov
 ·rename_i c1;rw[if_neg c1];exact h
theorem comes_in {f:Flt} :∀ {l:List Version} {p:Repl×View},(∀v∈l,v∈iss)→(∀v∈p.1.Held,v∈iss)→(∀x∈p.2.Seen,HIn iss x)→
  (∀v∈(l.foldl (Repl.come f) p).1.Held,v∈iss)∧(∀x∈(l.foldl (Repl.come f) p).2.Seen,HIn iss x)∧(l.foldl (Repl.come f) p).1.Views=p.1.Views
 | [],p,_,h1,h2=>⟨h1,h2,rfl⟩
 |v::l,p,hl,h1,h2=>by
  rw[List.foldl_cons]
  have hv:=hl v (List.mem_cons_self ..)
  have key:(∀w∈(Repl.come f p v).1.Held,w∈iss)∧(∀x∈(Repl.come f p v).2.Seen,HIn iss x)∧(Repl.come f p v).1.Views=p.1.Views:=by
   obtain⟨⟨ID,Size,L,N,Q,H,Vs⟩,⟨R,Rev,Fi,S,E⟩⟩:=p
   have hput:(∀w∈putV H v,w∈iss)∧(∀x∈putHead S ⟨v.Item,v.S⟩,HIn iss x):=⟨fun w hw=>by
    rcases putV_mem hw with hw|rfl
    ·exact h1 w hw
    ·exact hv,put_sub h2 hv⟩
   by_cases c1:v.S.cmp (headAt S v.Item)≤0
   ·rw[come_no c1];exact⟨h1,h2,rfl⟩
   ·by_cases c2:f.lets v=true
    ·rw[come_lets c1 c2];exact⟨hput.1,hput.2,rfl⟩
    ·by_cases c3:((Repl.mk ID Size (if v.S.L>L then v.S.L else L) N Q H Vs).custody f v.Item:Int)<Q
     ·rw[come_room c1 c3];exact⟨hput.1,hput.2,rfl⟩
     ·rw[come_full c1 (by simpa using c2) c3];exact⟨h1,h2,rfl⟩
  obtain⟨a,b,c⟩:=comes_in (f:=f) (l:=l) (fun w hw=>hl w (List.mem_cons_of_mem _ hw)) key.1 key.2.1
  exact⟨a,b,c.trans key.2.2⟩
theorem Repl.In.take {g:Gossip} {size:Nat} {B:Int} (h:r.In L) (ho:r.Ok size B) (hg:g.In size B L) (hov:OIn L.ov (r.take P g).1.own):(r.take P g).1.In L:=by
 unfold Repl.take at hov ⊢
 split at hov
 ·rename_i hc
  rw[if_pos hc]
  simp only[Bool.and_eq_true]at hc
  have hmv:∀w∈(r.merged g).Views,OIn L.ov w:=fun w hw=>by
   rcases List.mem_or_eq_of_mem_set hw with hw|rfl
   ·rcases mergeV_mem hw with hw|hw
    ·exact h.vc w hw
    ·exact hg.vc w hw
   ·exact h.vc _ ho.own_mem
  have hov2:OIn L.ov (r.me1 P g):=by rw[← (took ho hc.1).own];exact hov
  have gf:=Gossip.may_fit hc.1
  have hmf:∀w∈(r.merged g).Views,w.Fk:=fun w hw=>by
   rcases List.mem_or_eq_of_mem_set hw with hw|rfl
   ·rcases mergeV_mem hw with hw|hw
    ·exact h.fil w hw
    ·exact hg.fil w hw
   ·exact h.fil _ ho.own_mem
  have hm:∀w∈(r.merged g).Views,∀x∈w.Seen,HIn L.iss x:=fun w hw=>by
   rcases List.mem_or_eq_of_mem_set hw with hw|rfl
   ·rcases mergeV_mem hw with hw|hw
    ·exact h.seen w hw
    ·exact hg.seen w hw
   ·exact h.seen _ ho.own_mem
  have hme:∀x∈(r.me0 g).Seen,HIn L.iss x:=by
   rcases me0_seen (g:=g) ho with⟨-,e⟩|⟨-,e⟩<;>rw[e]
   ·exact h.seen _ ho.own_mem
   ·exact heads_sub (fun v hv=>h.held v hv)
  obtain⟨a,b,c⟩:=comes_in (f:=(r.merged g).flt P) (l:=g.Batch) (p:=(r.merged g,r.me0 g)) hg.batch (fun v hv=>h.held v hv) hme
  have t:=took (P:=P) ho hc.1
  obtain⟨-,t2,t3⟩:=t.rev ho hc.1
  have hp:(r.came P g).1.In L:=⟨by rw[c];exact hm,a,by rw[c];exact hmf,by rw[c];exact hmv⟩
  have ho1:=ho.o1
  rw[takeIn_eq]
  have h1:=hp.setOwn (v:=r.me1 P g) (by rw[(me1_parts P r g).2.2.1];exact b) (h.fown ho (by rw[←t.own];exact t2) (by rw[←t.own];omega)) hov2
  unfold Repl.sweep
  exact⟨h1.seen,fun v hv=>h1.held v (List.mem_filter.1 hv).1,h1.fil,h1.vc⟩
 ·rename_i hc;rw[if_neg hc];exact h
theorem newRepl_in (i size:Nat) (q:Int) (hov:∀w∈(newRepl i size q).Views,OIn L.ov w):(newRepl i size q).In L:=by
 refine⟨fun w hw x hx=> ?_,fun v hv=>(by cases hv),fun w hw=> ?_,hov⟩
 ·obtain⟨j,_,rfl⟩:=List.mem_map.1 (show w∈(List.range size).map (newView i size)from hw)
  unfold newView at hx;split at hx<;>cases hx
 ·obtain⟨j,_,rfl⟩:=List.mem_map.1 (show w∈(List.range size).map (newView i size)from hw)
  unfold newView;split
  ·exact⟨fun h0=>absurd h0 (by simp),fun _=>by simp[goodF]⟩
  ·exact⟨fun _=>⟨rfl,rfl,rfl⟩,fun h0=>absurd rfl h0⟩
end
theorem Gossip.may_puts {P:Prs} {size:Nat} {g:Gossip} (h:g.may P size=true):g.Puts size:=by
 have f:=Gossip.may_fit h
 refine⟨by have:=f.f0;omega,by have:=f.t0;omega,fun w hw=> ?_,f.bs⟩
 obtain⟨v,hv⟩:=f.vs w hw
 refine⟨by have:=v.r0;omega,v.v0,fun x hx=> ?_,fun e he=>(v.e e he).1,by have:=v.el (by omega);omega⟩
 have:=headsMay_mem v.s x hx
 omega
def Gram.In (size:Nat) (B:Int) (L:Lore) (x:Gram):Prop:=
 x.B= [] ∨∃g:Gossip,g.Puts size∧g.In size B L∧((x.Turned=false∧x.B=gossB g)∨∃(i:Nat) (y:UInt8) (hi:i<(gossB g).length),(gossB g)[i]≠y∧x.Turned=true∧x.B=(gossB g).set i y)
theorem Gram.In.mono {size:Nat} {B B':Int} {i j:Lore} {x:Gram} (h:x.In size B i) (hb:B≤B') (hs:i.Le j):x.In size B' j:=by
 rcases h with h|⟨g,h1,h2,h3⟩
 ·exact .inl h
 ·exact .inr ⟨g,h1,h2.mono hb hs,h3⟩
theorem Gram.In.told {size:Nat} {B:Int} {L:Lore} {x:Gram} {k:Gossip} (h:x.In size B L) (hk:k.Puts size) (e:x.B=gossB k):k.In size B L:=by
 rcases h with h|⟨g,h1,h2,h3⟩
 ·have:=congrArg List.length e
  rw[h,gossB_len]at this
  simp at this
 ·rcases h3 with⟨-,h3⟩|⟨i,y,hi,hy,-,h3⟩
  ·rw[gossB_inj hk h1 (e.symm.trans h3)];exact h2
  ·exact absurd (h3.symm.trans e) (gossB_turn hi hy)
theorem send_in {size:Nat} {B:Int} {iss:Lore} {l:List Gram} {x:Gram} (hl:∀g∈l,g.In size B iss) (hx:x.In size B iss):∀g∈netSend l x,g.In size B iss:=fun g hg=>by
 unfold netSend at hg
 split at hg
 ·exact hl g hg
 ·rcases List.mem_append.1 hg with hg|hg
  ·exact hl g hg
  ·rw[List.mem_singleton.1 hg];exact hx
theorem twice_in {size:Nat} {B:Int} {iss:Lore} {l:List Gram} {i:Int} (hl:∀g∈l,g.In size B iss):∀g∈netTwice l i,g.In size B iss:=by
 unfold netTwice
 split
 ·exact send_in hl (hl _ (List.getElem_mem _))
 ·exact hl
theorem turned_in {size:Nat} {B:Int} {iss:Lore} {l:List Gram} {i to:Int} (hl:∀g∈l,g.In size B iss):∀g∈(netTurned l i to).1,g.In size B iss:=by
 unfold netTurned
 split
 ·rename_i hi
  have hk:i.toNat<l.length:=by omega
  have hg:=hl _ (List.getElem_mem hk)
  dsimp only
  split
  ·exact hl
  ·rename_i ht
   split
   ·exact hl
   ·rename_i hb
    intro g hgm
    rcases List.mem_or_eq_of_mem_set hgm with hgm|rfl
    ·exact hl g hgm
    ·rcases hg with hg|⟨q,h1,h2,h3⟩
     ·exact absurd (.inl hg) hb
     ·rcases h3 with⟨h3,h4⟩|⟨_,_,_,_,h5,_⟩
      ·refine .inr ⟨q,h1,h2,.inr ?_⟩
       generalize l[i.toNat]=x at*
       have hp:0<x.B.length:=List.length_pos_iff.2 fun e=>hb (.inl e)
       have ht2:to%256≠0:=fun e=>hb (.inr (.inr e))
       have hto:0≤to:=by
        by_cases c:to<0
        ·exact absurd (.inr (.inl c)) hb
        ·omega
       have hj0:=Int.emod_nonneg (to/256) (b:=(x.B.length:Int)) (by omega)
       have hj1:=Int.emod_lt_of_pos (to/256) (b:=(x.B.length:Int)) (by omega)
       have hj:((to/256)%x.B.length).toNat<x.B.length:=by omega
       refine⟨((to/256)%x.B.length).toNat,(x.B.getD ((to/256)%x.B.length).toNat 0) ^^^ UInt8.ofNat (to%256).toNat,by rw[←h4];exact hj, ?_,rfl, ?_⟩
       ·intro e
        have e2:x.B.getD ((to/256)%x.B.length).toNat 0=(gossB q)[((to/256)%x.B.length).toNat]'(by rw[←h4];exact hj):=by
         rw[List.getD_eq_getElem?_getD,List.getElem?_eq_getElem hj,Option.getD_some]
         congr 1
        rw[e2]at e
        have e3:=congrArg UInt8.toNat e
        rw[UInt8.toNat_xor,UInt8.toNat_ofNat']at e3
        generalize ((gossB q)[((to/256)%x.B.length).toNat]'(by rw[←h4];exact hj)).toNat=a at e3
        have e4:(a ^^^ a)=a ^^^ (a ^^^ ((to%256).toNat%2 ^ 8)):=by rw[←e3]
        rw[Nat.xor_self,←Nat.xor_assoc,Nat.xor_self,Nat.zero_xor]at e4
        omega
       ·show turnB x.B to=_
        unfold turnB
        rw[h4]
      ·exact absurd h5 ht
 ·exact hl
theorem setFilter_n (P:Prs) (r:Repl) (t:List UInt8):(r.setFilter P t).1.N=r.N:=by
 unfold Repl.setFilter;split
 ·split<;>rfl
 ·rfl
theorem come_n {f:Flt} :∀ {l:List Version} {p:Repl×View},(l.foldl (Repl.come f) p).1.N=p.1.N
 | [],_=>rfl
 |v::l,p=>by
  rw[List.foldl_cons,come_n]
  obtain⟨⟨ID,Size,L,N,Q,H,Vs⟩,⟨R,Rev,Fi,S,E⟩⟩:=p
  by_cases c1:v.S.cmp (headAt S v.Item)≤0
  ·rw[come_no c1]
  ·by_cases c2:f.lets v=true
   ·rw[come_lets c1 c2]
   ·by_cases c3:((Repl.mk ID Size (if v.S.L>L then v.S.L else L) N Q H Vs).custody f v.Item:Int)<Q
    ·rw[come_room c1 c3]
    ·rw[come_full c1 (by simpa using c2) c3]
theorem take_n (P:Prs) (r:Repl) (g:Gossip):(r.take P g).1.N=r.N:=by
 unfold Repl.take;split
 ·exact come_n (f:=(r.merged g).flt P) (l:=g.Batch) (p:=(r.merged g,(r.merged g).meOf (r.merged g).own))
 ·rfl
theorem nextStamp_eq {l r n:Int} (h:(nextStamp l r n).2=true):(nextStamp l r n).1.R=r∧(nextStamp l r n).1.N=n+1:=by
 unfold nextStamp at h ⊢
 split
 ·exact⟨rfl,rfl⟩
 ·rename_i hc;rw[if_neg hc]at h;cases h
theorem put_s {P:Prs} {r:Repl} {item:Int} {attrs:List Attr} {tag body:List UInt8} (h0:(r.put P item attrs tag body).2.2=0):(r.put P item attrs tag body).2.1.S.R=r.ID∧(r.put P item attrs tag body).2.1.S.N=r.N+1:=by
 unfold Repl.put at h0 ⊢
 split at h0
 ·rename_i h1
  split at h0
  ·rename_i h2
   split at h0
   ·simp at h0
   ·rename_i h3
    rw[if_pos h1,if_pos h2,if_neg h3]
    exact nextStamp_eq h2
  ·simp at h0
 ·simp at h0
theorem delete_s {r:Repl} {item:Int} (h0:(r.delete item).2.2=0):(r.delete item).2.1.S.R=r.ID∧(r.delete item).2.1.S.N=r.N+1:=by
 unfold Repl.delete at h0 ⊢
 split at h0
 ·simp at h0
 ·rename_i w hw
  split at h0
  ·simp at h0
  ·rename_i hd
   split at h0
   ·rename_i h2
    simp only[if_neg hd,if_pos h2]
    exact nextStamp_eq h2
   ·simp at h0
def goodQ:List (List UInt8×Flt):=[([42],.leaf 1 0 0 0 []),([94,97],.leaf 4 0 0 0 [97]),([94,98],.leaf 4 0 0 0 [98]),([64,49,61,53],.leaf 2 1 5 5 []),([33,94,97],.one (.leaf 4 0 0 0 [97])),([64,48,58,48,45,57],.leaf 3 0 0 9 []),([33,42],.one (.leaf 1 0 0 0 [])),([64,49,61,53,38,94,97],.two 5 (.leaf 2 1 5 5 []) (.leaf 4 0 0 0 [97])),([64,49,61,53,124,94,98],.two 6 (.leaf 2 1 5 5 []) (.leaf 4 0 0 0 [98])),([33,64,49,61,53],.one (.leaf 2 1 5 5 []))]
def goodFlt (t:List UInt8):Flt:=((goodQ.find? fun p=>p.1==t).map Prod.snd).getD (.leaf 0 0 0 0 [])
def Prs.Good (P:Prs):Prop:=∀t∈goodF,(P t).1=goodFlt t
theorem lets_congr {a b:Version} (h1:a.Attrs=b.Attrs) (h2:a.Tag=b.Tag):∀f:Flt,f.lets a=f.lets b
 | .leaf o k l h t=>by simp only[Flt.lets,h1,h2]
 | .one x=>by simp only[Flt.lets,lets_congr h1 h2 x]
 | .two o x y=>by simp only[Flt.lets,lets_congr h1 h2 x,lets_congr h1 h2 y]
theorem insV_iff:∀ {l:List Version} {v w:Version},w∈insV l v↔(w=v∨(w∈l∧w.Item≠v.Item))
 | [],v,w=>by simp[insV]
 |x::l,v,w=>by
  unfold insV
  split
  ·simp only[List.mem_cons,List.mem_filter,decide_eq_true_eq]
  ·rename_i c
   rw[List.mem_cons,insV_iff (l:=l),List.mem_cons]
   constructor
   ·rintro(rfl|rfl|⟨h1,h2⟩)
    ·exact .inr ⟨.inl rfl,by omega⟩
    ·exact .inl rfl
    ·exact .inr ⟨.inr h1,h2⟩
   ·rintro(rfl|⟨rfl|h1,h2⟩)
    ·exact .inr (.inl rfl)
    ·exact .inl rfl
    ·exact .inr (.inr ⟨h1,h2⟩)
theorem outs_sub {f:Flt} {i:Int} {l:List Version} (h:∀v∈l,v.Item≠0):outs f i l=(outs f 0 l).filter fun v=>decide (v.Item≠i):=by
 unfold outs
 rw[List.filter_filter]
 refine List.filter_congr fun v hv=> ?_
 have:=h v hv
 simp[this]
theorem outs_le {f:Flt} {i:Int} {l:List Version} (h:∀v∈l,v.Item≠0):(outs f i l).length≤(outs f 0 l).length:=by
 rw[outs_sub h];exact List.length_filter_le _ _
theorem outs_lt {f:Flt} {l:List Version} {w:Version} (h:∀v∈l,v.Item≠0) (hw:w∈l) (hl:f.lets w=false):(outs f w.Item l).length<(outs f 0 l).length:=by
 rw[outs_sub h]
 refine List.length_filter_lt_length_iff_exists.2 ⟨w,List.mem_filter.2 ⟨hw, ?_⟩,by simp⟩
 simp[hl,h w hw]
theorem outs_ins {f:Flt} :∀ {l:List Version} {v:Version},(∀w∈l,w.Item≠0)→v.Item≠0→(outs f 0 (insV l v)).length=(outs f v.Item l).length+(if f.lets v then 0 else 1)
 | [],v,_,h0=>by cases c:f.lets v<;>simp[insV,outs,h0,c]
 |x::l,v,h,h0=>by
  have hx:=h x (List.mem_cons_self ..)
  unfold insV
  split
  ·have e:outs f 0 ((x::l).filter fun y=>decide (y.Item≠v.Item))=outs f v.Item (x::l):=by
    rw[outs_sub h]
    unfold outs
    rw[List.filter_filter,List.filter_filter]
    refine List.filter_congr fun w hw=> ?_
    rw[Bool.and_comm]
   have e2:(outs f 0 (v::(x::l).filter fun y=>decide (y.Item≠v.Item))).length=(outs f 0 ((x::l).filter fun y=>decide (y.Item≠v.Item))).length+(if f.lets v then 0 else 1):=by
    generalize (x::l).filter (fun y=>decide (y.Item≠v.Item))=k
    unfold outs
    cases c:f.lets v<;>simp[h0,c]
   rw[e2,e]
  ·rename_i c
   have ih:=outs_ins (f:=f) (l:=l) (v:=v) (fun w hw=>h w (List.mem_cons_of_mem _ hw)) h0
   have e1:(outs f 0 (x::insV l v)).length=(outs f 0 (insV l v)).length+(if f.lets x then 0 else 1):=by
    unfold outs;cases c:f.lets x<;>simp[hx,c]
   have e2:(outs f v.Item (x::l)).length=(outs f v.Item l).length+(if f.lets x then 0 else 1):=by
    have hxv:x.Item≠v.Item:=by omega
    unfold outs;cases c:f.lets x<;>simp[hxv,c]
   rw[e1,e2,ih];omega
theorem headAt_heads:∀ {l:List Version},l.Pairwise (fun a b=>a.Item<b.Item)→∀v∈l,headAt (headsOf l) v.Item=v.S
 |x::l,h,v,hv=>by
  obtain⟨h1,h2⟩:=List.pairwise_cons.1 h
  show headAt (⟨x.Item,x.S⟩::headsOf l) v.Item=v.S
  rw[headAt_cons]
  rcases List.mem_cons.1 hv with rfl|hv
  ·rw[if_pos rfl]
  ·rw[if_neg (by have:=h1 v hv;show¬x.Item=v.Item;omega)];exact headAt_heads h2 v hv
theorem headAt_from {l:List Head} {i:Int} (h:headAt l i≠⟨0,0,0⟩):∃x∈l,x.Item=i∧x.S=headAt l i:=by
 unfold headAt at h ⊢
 cases e:l.find? (fun h=>decide (h.Item=i))with
 |none=>rw[e]at h;exact absurd rfl h
 |some x=>
  exact⟨x,List.mem_of_find?_eq_some e,by simpa using List.find?_some e,rfl⟩
theorem may_ne {v:Version} (h:v.may=true):v.S≠⟨0,0,0⟩:=fun e=>by
 have:=(Version.may_fit h).l0;rw[e]at this;simp at this
theorem may_item {v:Version} (h:v.may=true):v.Item≠0:=by have:=(Version.may_fit h).i0;omega
def Apart (iss:List Version):Prop:=∀a∈iss,∀b∈iss,a.S=b.S→a=b
theorem apart_of {iss:List Version} (h:iss.Pairwise (fun a b=>a.S≠b.S)):Apart iss:=fun a ha b hb e=>by
 induction h with
 |nil=>cases ha
 |cons h1 _ ih=>
  rcases List.mem_cons.1 ha with rfl|ha'
  ·rcases List.mem_cons.1 hb with rfl|hb'
   ·rfl
   ·exact absurd e (h1 _ hb')
  ·rcases List.mem_cons.1 hb with rfl|hb'
   ·exact absurd e.symm (h1 _ ha')
   ·exact ih ha' hb'
structure HsP (iss:List Version) (f:Flt) (Q L:Int) (H:List Version) (S:List Head):Prop where
 hs:∀v∈H,headAt S v.Item=v.S
 hd:∀v∈iss,headAt S v.Item=v.S→f.lets v=true→v∈H
 qu:((outs f 0 H).length:Int)≤Q
 sl:∀h∈S,h.S.L≤L
theorem HsP.putV_eq {iss:List Version} {f:Flt} {Q L:Int} {H:List Version} {S:List Head} (h:HsP iss f Q L H S) {v:Version} (hn:0<v.S.cmp (headAt S v.Item)):putV H v=insV H v:=by
 unfold putV
 split
 ·rename_i w hw
  obtain⟨h1,h2⟩:=findV_some hw
  have:=h.hs w h1
  rw[h2]at this
  rw[this]at hn
  rw[if_neg (by have:=cmp_neg w.S v.S;omega)]
 ·rfl
theorem HsP.put {iss is2:List Version} {f:Flt} {Q L L':Int} {H:List Version} {S:List Head} (h:HsP iss f Q L H S) (hH:HeldOk H) (hS:S.Pairwise (fun a b=>a.Item<b.Item)) {v:Version} (hv:v.may=true)
  (hi:∀u∈is2,u∈iss∨u=v) (ha:∀u∈is2,u.S=v.S→u=v) (hn:0<v.S.cmp (headAt S v.Item)) (hl:v.S.L≤L') (hL:L≤L')
  (hr:f.lets v=true∨((outs f v.Item H).length:Int)<Q∨∃w∈H,w.Item=v.Item∧f.lets w=f.lets v):HsP is2 f Q L' (putV H v) (putHead S ⟨v.Item,v.S⟩):=by
 have hne:∀w∈H,w.Item≠0:=fun w hw=>may_item (hH.may w hw)
 have hself:headAt (putHead S ⟨v.Item,v.S⟩) v.Item=v.S:=by rw[headAt_put _ _ hS,if_pos ⟨rfl,hn⟩]
 have hoth:∀i,v.Item≠i→headAt (putHead S ⟨v.Item,v.S⟩) i=headAt S i:=fun i hi=>by
  rw[headAt_put _ _ hS,if_neg (fun c=>hi c.1)]
 rw[h.putV_eq hn]
 refine⟨fun w hw=> ?_,fun u hu he hlt=> ?_, ?_,fun x hx=> ?_⟩
 ·rcases insV_iff.1 hw with rfl|⟨h1,h2⟩
  ·exact hself
  ·rw[hoth _ (Ne.symm h2)];exact h.hs w h1
 ·by_cases c:v.Item=u.Item
  ·rw[←c,hself]at he
   rw[ha u hu he.symm]
   exact insV_iff.2 (.inl rfl)
  ·rw[hoth _ c]at he
   rcases hi u hu with hu|rfl
   ·exact insV_iff.2 (.inr ⟨h.hd u hu he hlt,Ne.symm c⟩)
   ·exact absurd rfl c
 ·rw[outs_ins hne (may_item hv)]
  have h1:=h.qu
  have h2:=outs_le (f:=f) (i:=v.Item) hne
  rcases hr with e|e|⟨w,hw,e1,e2⟩
  ·rw[e];simp;omega
  ·split<;>omega
  ·cases c:f.lets v with
   |true=>simp;omega
   |false=>
    have:=outs_lt (f:=f) hne hw (e2.trans c)
    rw[e1]at this
    simp;omega
 ·rcases putHead_sub hx with hx|rfl
  ·have:=h.sl x hx;omega
  ·exact hl
theorem HsP.late {iss:List Version} {f:Flt} {Q L L':Int} {H:List Version} {S:List Head} (h:HsP iss f Q L H S) (hL:L≤L'):HsP iss f Q L' H S:=⟨h.hs,h.hd,h.qu,fun x hx=>by have:=h.sl x hx;omega⟩
theorem HsP.less {iss:List Version} {f:Flt} {Q L:Int} {H:List Version} {S:List Head} (h:HsP iss f Q L H S) (p:Version→Bool) (hp:∀v∈H,f.lets v=true→p v=true):HsP iss f Q L (H.filter p) S:=by
 refine⟨fun v hv=>h.hs v (List.mem_filter.1 hv).1,fun v hv he hl=>List.mem_filter.2 ⟨h.hd v hv he hl,hp v (h.hd v hv he hl) hl⟩, ?_,h.sl⟩
 have h1:=h.qu
 have:(outs f 0 (H.filter p)).length≤(outs f 0 H).length:=by
  unfold outs
  exact(List.filter_sublist.filter _).length_le
 omega
theorem HsP.reseen {iss:List Version} {f:Flt} {Q L:Int} {H:List Version} {S:List Head} (h:HsP iss f Q L H S) (hH:HeldOk H) (hi:∀v∈H,v∈iss) (ha:Apart iss) (hm:∀v∈iss,v.may=true):HsP iss f Q L H (headsOf H):=by
 refine⟨headAt_heads hH.ord,fun u hu he _=> ?_,h.qu,fun x hx=> ?_⟩
 ·obtain⟨x,hx,-,e⟩:=headAt_from (l:=headsOf H) (i:=u.Item) (by rw[he];exact may_ne (hm u hu))
  obtain⟨w,hw,rfl⟩:=List.mem_map.1 hx
  rw[he]at e
  rw[←ha w (hi w hw) u hu e];exact hw
 ·obtain⟨w,hw,rfl⟩:=List.mem_map.1 hx
  have e:=h.hs w hw
  obtain⟨y,hy,-,e2⟩:=headAt_from (l:=S) (i:=w.Item) (by rw[e];exact may_ne (hH.may w hw))
  have:=h.sl y hy
  rw[e2,e]at this
  exact this
theorem HsP.refilter {iss:List Version} {f f':Flt} {Q L:Int} {H:List Version} (h:HsP iss f Q L H (headsOf H)) (hi:∀v∈H,v∈iss) (ha:Apart iss) (hm:∀v∈iss,v.may=true) (hq:((outs f' 0 H).length:Int)≤Q):HsP iss f' Q L H (headsOf H):=by
 refine⟨h.hs,fun u hu he _=> ?_,hq,h.sl⟩
 obtain⟨x,hx,-,e⟩:=headAt_from (l:=headsOf H) (i:=u.Item) (by rw[he];exact may_ne (hm u hu))
 obtain⟨w,hw,rfl⟩:=List.mem_map.1 hx
 rw[he]at e
 rw[←ha w (hi w hw) u hu e];exact hw
theorem HsP.more {iss:List Version} {f:Flt} {Q L:Int} {H:List Version} {S:List Head} {v:Version} (h:HsP iss f Q L H S) (hs:∀x∈S,HIn iss x) (hv:v.may=true) (ha:∀u∈iss,u.S≠v.S):HsP (iss++[v]) f Q L H S:=by
 refine⟨h.hs,fun u hu he hl=> ?_,h.qu,h.sl⟩
 rcases List.mem_append.1 hu with hu|hu
 ·exact h.hd u hu he hl
 ·rw[List.mem_singleton.1 hu]at he
  obtain⟨x,hx,-,e⟩:=headAt_from (l:=S) (i:=v.Item) (by rw[he];exact may_ne hv)
  obtain⟨w,hw,rfl⟩:=hs x hx
  rw[he]at e
  exact absurd e (ha w hw)
theorem HsP.comes {iss:List Version} {f:Flt} (ha:Apart iss):∀ {l:List Version} {p:Repl×View},(∀v∈l,v∈iss∧v.may=true)→HeldOk p.1.Held→headsMay 0 p.2.Seen=true→HsP iss f p.1.Quota p.1.L p.1.Held p.2.Seen→
  HsP iss f (l.foldl (Repl.come f) p).1.Quota (l.foldl (Repl.come f) p).1.L (l.foldl (Repl.come f) p).1.Held (l.foldl (Repl.come f) p).2.Seen
 | [],p,_,_,_,h=>h
 |v::l,p,hl,h1,h2,h=>by
  obtain⟨hv,hm⟩:=hl v (List.mem_cons_self ..)
  obtain⟨⟨a1,a2⟩,-⟩:=come_keeps (f:=f) hm ⟨h1,h2⟩
  rw[List.foldl_cons]
  refine HsP.comes ha (fun w hw=>hl w (List.mem_cons_of_mem _ hw)) a1 a2 ?_
  obtain⟨⟨ID,Size,L,N,Q,H,Vs⟩,⟨R,Rev,Fi,S,E⟩⟩:=p
  have hS:S.Pairwise (fun a b=>a.Item<b.Item):=(headsMay_iff.1 h2).2
  have h:HsP iss f Q L H S:=h
  have h1:HeldOk H:=h1
  have hL:L≤(if v.S.L>L then v.S.L else L):=by split<;>omega
  have hL2:v.S.L≤(if v.S.L>L then v.S.L else L):=by split<;>omega
  by_cases c1:v.S.cmp (headAt S v.Item)≤0
  ·rw[come_no c1];exact h.late hL
  ·have hput:=fun hr=>HsP.put (is2:=iss) h h1 hS hm (fun u hu=> .inl hu) (fun u hu e=>ha u hu v hv e) (by omega) hL2 hL hr
   by_cases c2:f.lets v=true
   ·rw[come_lets c1 c2];exact hput (.inl c2)
   ·by_cases c3:((Repl.mk ID Size (if v.S.L>L then v.S.L else L) N Q H Vs).custody f v.Item:Int)<Q
    ·rw[come_room c1 c3];exact hput (.inr (.inl c3))
    ·rw[come_full c1 (by simpa using c2) c3];exact h.late hL
def Repl.Hs (iss:List Version) (r:Repl):Prop:=HsP iss (goodFlt r.own.Filter) r.Quota r.L r.Held r.own.Seen
section
variable {P:Prs} {size:Nat} {B:Int} {r:Repl} {iss:List Version}
theorem write_own {v:Version} (ho:r.Ok size B):(r.write v).own=r.own.wrote v:=
 own_set (id:=r.ID) (l:=r.Views) (r.own.wrote v) ho.i0 (by have:=ho.vl;have:=ho.i1;omega)
theorem Repl.Hs.write {v:Version} (h:r.Hs iss) (ho:r.Ok size B) (hv:v.may=true) (hl:v.S.L=r.L+1) (ha:∀u∈iss,u.S≠v.S)
  (hr:(goodFlt r.own.Filter).lets v=true∨((outs (goodFlt r.own.Filter) v.Item r.Held).length:Int)<r.Quota∨∃w∈r.Held,w.Item=v.Item∧(goodFlt r.own.Filter).lets w=(goodFlt r.own.Filter).lets v):(r.write v).Hs (iss++[v]):=by
 unfold Repl.Hs
 rw[write_own ho]
 have hn:0<v.S.cmp (headAt r.own.Seen v.Item):=by
  by_cases c:headAt r.own.Seen v.Item=⟨0,0,0⟩
  ·rw[c,cmp_pos];unfold Stamp.lt;have:=(Version.may_fit hv).l0;simp only;omega
  ·obtain⟨x,hx,-,e⟩:=headAt_from c
   have:=h.sl x hx
   rw[←e,cmp_pos];unfold Stamp.lt;omega
 refine HsP.put (L':=v.S.L) h ho.hm (headsMay_iff.1 ho.own_ok.s).2 hv (fun u hu=> ?_) (fun u hu e=> ?_) hn (Int.le_refl _) (by omega) hr
 ·rcases List.mem_append.1 hu with hu|hu
  ·exact .inl hu
  ·exact .inr (List.mem_singleton.1 hu)
 ·rcases List.mem_append.1 hu with hu|hu
  ·exact absurd e (ha u hu)
  ·exact List.mem_singleton.1 hu
theorem nextStamp_l {l r n:Int} (h:(nextStamp l r n).2=true):(nextStamp l r n).1.L=l+1:=by
 unfold nextStamp at h ⊢
 split
 ·rfl
 ·rename_i hc;rw[if_neg hc]at h;cases h
theorem put_room {item:Int} {attrs:List Attr} {tag body:List UInt8} (h0:(r.put P item attrs tag body).2.2=0):(r.put P item attrs tag body).2.1.S.L=r.L+1∧((r.flt P).lets (r.put P item attrs tag body).2.1=true∨((outs (r.flt P) (r.put P item attrs tag body).2.1.Item r.Held).length:Int)<r.Quota):=by
 unfold Repl.put at h0 ⊢
 split at h0
 ·rename_i h1
  split at h0
  ·rename_i h2
   split at h0
   ·simp at h0
   ·rename_i h3
    rw[if_pos h1,if_pos h2,if_neg h3]
    refine⟨nextStamp_l h2, ?_⟩
    simp only[Bool.and_eq_true,Bool.not_eq_true',decide_eq_true_eq,not_and]at h3
    show(r.flt P).lets _=true∨((outs (r.flt P) item r.Held).length:Int)<r.Quota
    cases c:(r.flt P).lets ⟨item,(nextStamp r.L r.ID r.N).1,false,attrs,tag,body⟩with
    |true=>exact .inl rfl
    |false=>
     have:=h3 c
     unfold Repl.custody at this
     exact .inr (by omega)
  ·simp at h0
 ·simp at h0
theorem delete_room {item:Int} (h0:(r.delete item).2.2=0):(r.delete item).2.1.S.L=r.L+1∧∃w∈r.Held,w.Item=(r.delete item).2.1.Item∧∀f:Flt,f.lets w=f.lets (r.delete item).2.1:=by
 unfold Repl.delete at h0 ⊢
 split at h0
 ·simp at h0
 ·rename_i w hw
  split at h0
  ·simp at h0
  ·rename_i hd
   split at h0
   ·rename_i h2
    simp only[if_neg hd,if_pos h2]
    obtain⟨m1,m2⟩:=findV_some hw
    exact⟨nextStamp_l h2,w,m1,m2,lets_congr rfl rfl⟩
   ·simp at h0
theorem Repl.Hs.setFilter {text:List UInt8} (hP:P.Good) (h:r.Hs iss) (ho:r.Ok size B) (hi:∀v∈r.Held,v∈iss) (ha:Apart iss) (hm:∀v∈iss,v.may=true) (ht:text∈goodF):(r.setFilter P text).1.Hs iss:=by
 unfold Repl.setFilter
 split
 ·split
  ·exact h
  ·rename_i c
   have e:(r.refilter text).own=⟨r.own.R,r.own.Rev+1,text,headsOf r.Held,incAt r.own.Epochs (r.ID-1).toNat⟩:=own_set (id:=r.ID) _ ho.i0 (by have:=ho.vl;have:=ho.i1;omega)
   unfold Repl.Hs
   simp only[e]
   refine HsP.refilter (HsP.reseen h ho.hm hi ha hm) hi ha hm ?_
   unfold Repl.custody at c
   rw[hP text ht]at c
   show((outs (goodFlt text) 0 r.Held).length:Int)≤r.Quota
   omega
 ·exact h
theorem Repl.Hs.take {g:Gossip} (hP:P.Good) (h:r.Hs iss) (ho:r.Ok size B) (hf:r.own.Fk) (hi:∀v∈r.Held,v∈iss) (hb:∀v∈g.Batch,v∈iss) (ha:Apart iss) (hm:∀v∈iss,v.may=true):(r.take P g).1.Hs iss:=by
 unfold Repl.take
 split
 ·rename_i hc
  simp only[Bool.and_eq_true]at hc
  have hg:=hc.1
  have t:=took (P:=P) ho hg
  have hff:r.flt P=goodFlt r.own.Filter:=hP _ (hf.f (by have:=ho.o1;omega))
  have h0:HsP iss (goodFlt r.own.Filter) r.Quota r.L r.Held (r.me0 g).Seen:=by
   rcases me0_seen (g:=g) ho with⟨-,e⟩|⟨-,e⟩<;>rw[e]
   ·exact h
   ·exact HsP.reseen h ho.hm hi ha hm
  have h1:=HsP.comes ha (l:=g.Batch) (p:=(r.merged g,r.me0 g)) (fun v hv=>⟨hb v hv,(Gossip.may_fit hg).bs v hv⟩) ho.hm (me0_may ho) h0
  have hfl:(r.merged g).flt P=goodFlt r.own.Filter:=by rw[merged_flt ho];exact hff
  rw[←hfl]at h1
  have h2:HsP iss (goodFlt r.own.Filter) (r.came P g).1.Quota (r.came P g).1.L (r.came P g).1.Held (r.came P g).2.Seen:=by
   have:HsP iss ((r.merged g).flt P) (r.came P g).1.Quota (r.came P g).1.L (r.came P g).1.Held (r.came P g).2.Seen:=h1
   rwa [hfl]at this
  show(r.takeIn P g).Hs iss
  unfold Repl.Hs
  rw[(t.rev ho hg).2.1,t.held,t.own,(me1_parts P r g).2.2.1]
  exact h2.less _ fun v _ hl=>by rw[hff,hl];rfl
 ·exact h
theorem newRepl_hs {i size:Nat} {q:Int} (hq:0≤q) (hs:(newRepl i size q).own.Seen= []):(newRepl i size q).Hs [] :=by
 unfold Repl.Hs
 rw[hs]
 exact⟨fun v hv=>(by cases hv),fun v hv=>(by cases hv),hq,fun x hx=>(by cases hx)⟩
end
def Mesh.ov (m:Mesh) (q:Int):View:=((m.Repls[(q-1).toNat]?).map Repl.own).getD View.zero
def Mesh.lore (m:Mesh):Lore:=⟨m.Issued,m.ov⟩
structure Mesh.Ok (size:Nat) (B:Int) (k:Nat) (m:Mesh):Prop where
 s1:1≤size
 s5:size≤5
 sz:m.Size=size
 b0:1≤m.Batch
 b1:m.Batch≤4
 rl:m.Repls.length=size
 rs:∀(i:Nat) (r:Repl),m.Repls[i]? =some r→r.Ok size B∧r.ID=(i:Int)+1
 ed:∀e∈m.Edges,1≤e.A∧e.A<e.B∧e.B≤size
 el:m.Edges.length≤20
 fl:m.Fly.length≤20
 fb:∀g∈m.Fly,g.B.length≤5000
 il:m.Issued.length≤k
 iv:∀v∈m.Issued,v.may=true
 ri:∀r∈m.Repls,r.In m.lore
 sn:∀r∈m.Repls,∀v∈m.Issued,v.S.R=r.ID→v.S.N≤r.N
 sd:m.Issued.Pairwise (fun a b=>a.S≠b.S)
 fi:∀x∈m.Fly,x.In size B m.lore
 hs:∀r∈m.Repls,r.Hs m.Issued
section
variable {P:Prs} {size k:Nat} {B:Int} {m:Mesh}
theorem Mesh.Ok.mono {B':Int} {k':Nat} (h:m.Ok size B k) (hb:B≤B') (hk:k≤k'):m.Ok size B' k':=
 ⟨h.s1,h.s5,h.sz,h.b0,h.b1,h.rl,fun i r hr=>⟨(h.rs i r hr).1.mono hb,(h.rs i r hr).2⟩,h.ed,h.el,h.fl,h.fb,by have:=h.il;omega,h.iv,h.ri,h.sn,h.sd,fun x hx=>(h.fi x hx).mono hb (Lore.Le.refl _),h.hs⟩
theorem Mesh.Ok.mem {r:Repl} (h:m.Ok size B k) (hr:r∈m.Repls):r.Ok size B:=by
 obtain⟨i,hi,rfl⟩:=List.getElem_of_mem hr
 exact(h.rs i _ (List.getElem?_eq_getElem hi)).1
def OStep (a b:View):Prop:=a.Rev<b.Rev∨b=a
theorem ov_set {m m':Mesh} {i:Nat} {r0 r:Repl} (h:m.Repls[i]? =some r0) (e:m'.Repls=m.Repls.set i r) (q:Int):m'.ov q=if(q-1).toNat=i then r.own else m.ov q:=by
 unfold Mesh.ov
 have hi:=(List.getElem?_eq_some_iff.1 h).1
 rw[e]
 by_cases c:(q-1).toNat=i
 ·rw[c,List.getElem?_set_self hi,if_pos rfl];rfl
 ·rw[List.getElem?_set_ne (Ne.symm c),if_neg c]
theorem lore_step {m m':Mesh} {i:Nat} {r0 r:Repl} (h:m.Repls[i]? =some r0) (e:m'.Repls=m.Repls.set i r) (hs:OStep r0.own r.own) (hi:∀v∈m.Issued,v∈m'.Issued):m.lore.Le m'.lore:=by
 refine⟨hi,fun w hw=> ?_⟩
 show OIn m'.ov w
 have hw:OIn m.ov w:=hw
 unfold OIn at hw ⊢
 rw[ov_set h e]
 by_cases c:(w.R-1).toNat=i
 ·rw[if_pos c]
  have:m.ov w.R=r0.own:=by unfold Mesh.ov;rw[c,h];rfl
  rw[this]at hw
  rcases hs with hs|hs
  ·exact⟨by omega,fun q=>by omega⟩
  ·rw[hs];exact hw
 ·rw[if_neg c];exact hw
theorem Mesh.Ok.at_ {r:Repl} (h:m.Ok size B k) (h0:1≤r.ID) (h1:r.ID≤size):(r.ID-1).toNat<m.Repls.length:=by have:=h.rl;omega
theorem Mesh.Ok.own_in {m':Mesh} {r0 r:Repl} (h:m.Ok size B k) (hr:r.Ok size B) (h0:m.Repls[(r.ID-1).toNat]? =some r0) (e:m'.Repls=m.Repls.set (r.ID-1).toNat r):OIn m'.lore.ov r.own:=by
 refine oin_self ?_
 show m'.ov r.own.R=_
 rw[ov_set h0 e,if_pos (by rw[hr.own_r])]
theorem Mesh.Ok.with_ {r r0:Repl} (h:m.Ok size B k) (hr:r.Ok size B) (h0:m.Repls[(r.ID-1).toNat]? =some r0) (hst:OStep r0.own r.own) (hi:r.In (m.with_ r).lore) (hn:∀v∈m.Issued,v.S.R=r.ID→v.S.N≤r.N) (hh:r.Hs m.Issued):(m.with_ r).Ok size B k:=by
 have le:m.lore.Le (m.with_ r).lore:=lore_step h0 rfl hst fun v hv=>hv
 have hk:(r.ID-1).toNat<m.Repls.length:=h.at_ hr.i0 hr.i1
 refine { s1:=h.s1,s5:=h.s5,sz:=h.sz,b0:=h.b0,b1:=h.b1,rl:=by simp only[List.length_set];exact h.rl,rs:=fun i x hx=> ?_,ed:=h.ed,el:=h.el,fl:=h.fl,fb:=h.fb,il:=h.il,iv:=h.iv,ri:=fun x hx=> ?_,sn:=fun x hx=> ?_,sd:=h.sd,fi:=fun x hx=>(h.fi x hx).mono (Int.le_refl _) le,hs:=fun x hx=> ?_ }
 ·by_cases e:(r.ID-1).toNat=i
  ·subst e
   simp only[List.getElem?_set_self hk]at hx
   cases hx
   exact⟨hr,by have:=hr.i0;omega⟩
  ·simp only[List.getElem?_set_ne e]at hx
   exact h.rs i x hx
 ·rcases List.mem_or_eq_of_mem_set hx with hx|rfl
  ·exact(h.ri x hx).mono le
  ·exact hi
 ·rcases List.mem_or_eq_of_mem_set hx with hx|rfl
  ·exact h.sn x hx
  ·exact hn
 ·rcases List.mem_or_eq_of_mem_set hx with hx|rfl
  ·exact h.hs x hx
  ·exact hh
theorem Mesh.Ok.wrote {r r0:Repl} {v:Version} (h:m.Ok size B k) (hr:r.Ok size B) (h0:m.Repls[(r.ID-1).toNat]? =some r0) (hst:OStep r0.own r.own) (hv:v.may=true) (hi:r.In (m.wrote r v).lore) (n1:v.S.R=r.ID) (n2:∀w∈m.Issued,w.S.R=r.ID→w.S.N<v.S.N) (n3:v.S.N≤r.N) (hh:r.Hs (m.Issued++[v])):(m.wrote r v).Ok size B (k+1):=by
 have hs:∀w∈m.Issued,w∈m.Issued++[v]:=fun w hw=>List.mem_append_left _ hw
 have le:m.lore.Le (m.wrote r v).lore:=lore_step h0 rfl hst hs
 have hne:∀u∈m.Issued,u.S≠v.S:=fun u hu e=>by
  have:=n2 u hu (by rw[e];exact n1)
  rw[e]at this;omega
 have hk:(r.ID-1).toNat<m.Repls.length:=h.at_ hr.i0 hr.i1
 refine { s1:=h.s1,s5:=h.s5,sz:=h.sz,b0:=h.b0,b1:=h.b1,rl:=by simp only[List.length_set];exact h.rl,rs:=fun i x hx=> ?_,ed:=h.ed,el:=h.el,fl:=h.fl,fb:=h.fb,il:=by have:=h.il;simp only[List.length_append,List.length_cons,List.length_nil];omega,iv:=fun w hw=> ?_,ri:=fun x hx=> ?_,sn:=fun x hx w hw hwr=> ?_,sd:=List.pairwise_append.2 ⟨h.sd,by simp,fun a ha b hb e=> ?_⟩,fi:=fun x hx=>(h.fi x hx).mono (Int.le_refl _) le,hs:=fun x hx=> ?_ }
 ·by_cases e:(r.ID-1).toNat=i
  ·subst e
   simp only[List.getElem?_set_self hk]at hx
   cases hx
   exact⟨hr,by have:=hr.i0;omega⟩
  ·simp only[List.getElem?_set_ne e]at hx
   exact h.rs i x hx
 ·rcases List.mem_append.1 hw with hw|hw
  ·exact h.iv w hw
  ·rw[List.mem_singleton.1 hw];exact hv
 ·rcases List.mem_or_eq_of_mem_set hx with hx|rfl
  ·exact(h.ri x hx).mono le
  ·exact hi
 ·obtain⟨i,hi2⟩:=List.getElem?_of_mem hx
  by_cases e:(r.ID-1).toNat=i
  ·subst e
   simp only[List.getElem?_set_self hk]at hi2
   cases hi2
   rcases List.mem_append.1 hw with hw|hw
   ·have:=n2 w hw hwr;omega
   ·rw[List.mem_singleton.1 hw];exact n3
  ·simp only[List.getElem?_set_ne e]at hi2
   have hid:=(h.rs i x hi2).2
   rcases List.mem_append.1 hw with hw|hw
   ·exact h.sn x (List.mem_of_getElem? hi2) w hw hwr
   ·rw[List.mem_singleton.1 hw,n1]at hwr
    have:=hr.i0;omega
 ·rw[List.mem_singleton.1 hb]at e
  exact hne a ha e
 ·rcases List.mem_or_eq_of_mem_set hx with hx|rfl
  ·exact HsP.more (h.hs x hx) ((h.ri x hx).seen _ (h.mem hx).own_mem) hv hne
  ·exact hh
theorem Mesh.Ok.fly {l:List Gram} (h:m.Ok size B k) (h1:l.length≤20) (h2:∀g∈l,g.B.length≤5000) (h3:∀g∈l,g.In size B m.lore):({ m with Fly:=l } :Mesh).Ok size B k:=⟨h.s1,h.s5,h.sz,h.b0,h.b1,h.rl,h.rs,h.ed,h.el,h1,h2,h.il,h.iv,h.ri,h.sn,h.sd,h3,h.hs⟩
theorem setFilter_step (P:Prs) {r:Repl} (ho:r.Ok size B) (t:List UInt8):OStep r.own (r.setFilter P t).1.own:=by
 unfold Repl.setFilter
 split
 ·split
  ·exact .inr rfl
  ·have e:(r.refilter t).own=⟨r.own.R,r.own.Rev+1,t,headsOf r.Held,incAt r.own.Epochs (r.ID-1).toNat⟩:=own_set (id:=r.ID) _ ho.i0 (by have:=ho.vl;have:=ho.i1;omega)
   left
   show r.own.Rev<(r.refilter t).own.Rev
   rw[e];show r.own.Rev<r.own.Rev+1;omega
 ·exact .inr rfl
theorem write_step {r:Repl} {v:Version} (ho:r.Ok size B):OStep r.own (r.write v).own:=by
 left;rw[write_own ho];show r.own.Rev<r.own.Rev+1;omega
theorem take_step {r:Repl} (ho:r.Ok size B) (g:Gossip):OStep r.own (r.take P g).1.own:=by
 unfold Repl.take
 split
 ·rename_i hc
  simp only[Bool.and_eq_true]at hc
  obtain⟨e1,e2,e3⟩:=(took (P:=P) ho hc.1).rev ho hc.1
  rcases e3 with⟨e3,e4,e5⟩|⟨-,e⟩
  ·right
   exact View.ext e1 e5 e2 e3 e4
  ·left;show r.own.Rev<(r.takeIn P g).own.Rev;omega
 ·exact .inr rfl
theorem Mesh.Ok.takes (hG:P.Good) {g:Gossip} {r:Repl} (h:m.Ok size B k) (hr:m.Repls[(r.ID-1).toNat]? =some r) (hg:g.In size B m.lore):(m.with_ (r.take P g).1).Ok size (B+1) k:=by
 have ho:=(h.rs _ _ hr).1
 have hmem:=List.mem_of_getElem? hr
 have hin:=h.ri _ hmem
 have hm:=h.mono (B':=B+1) (k':=k) (by omega) (Nat.le_refl _)
 have ok:=ho.take (P:=P) (g:=g) hg.ok
 have e0:m.Repls[((r.take P g).1.ID-1).toNat]? =some r:=by rw[take_id];exact hr
 have st:=take_step (P:=P) ho g
 have le:m.lore.Le (m.with_ (r.take P g).1).lore:=lore_step e0 rfl st fun v hv=>hv
 exact hm.with_ ok e0 st ((hin.mono le).take ho (hg.mono (Int.le_refl _) le) (hm.own_in (m':=m.with_ (r.take P g).1) ok e0 rfl)) (fun v hv hr2=>by rw[take_n];rw[take_id]at hr2;exact h.sn r hmem v hv hr2) ((h.hs r hmem).take hG ho (hin.fil _ ho.own_mem) hin.held hg.batch (apart_of h.sd) h.iv)
theorem Mesh.Ok.write (hP:P.Short) (hG:P.Good) {s:Step} (h:m.Ok size B k) (h1:1≤s.R) (h2:s.R≤size) (hft:s.Kind=3→s.Text∈goodF):(m.write P s).1.Ok size (B+1) (k+1):=by
 have hk:(s.R-1).toNat<m.Repls.length:=by have:=h.rl;omega
 have hr:=List.getElem?_eq_getElem hk
 rw[write_at hr]
 have ho:=(h.rs _ _ hr).1
 have hid:=(h.rs _ _ hr).2
 have hin:=h.ri _ (List.mem_of_getElem? hr)
 have hsn:=h.sn _ (List.mem_of_getElem? hr)
 have hhs:=h.hs _ (List.mem_of_getElem? hr)
 have hap:=apart_of h.sd
 have hs:∀v,∀w∈m.Issued,w∈m.Issued++[v]:=fun v w hw=>List.mem_append_left _ hw
 generalize m.Repls[(s.R-1).toNat]=r at*
 have hr0:m.Repls[(r.ID-1).toNat]? =some r:=by rw[hid,show((((s.R-1).toNat:Int)+1-1).toNat)=(s.R-1).toNat by omega];exact hr
 have hm:=h.mono (B':=B+1) (k':=k+1) (by omega) (by omega)
 have hm2:=h.mono (B':=B+1) (k':=k) (by omega) (by omega)
 have hff:r.flt P=goodFlt r.own.Filter:=hG _ ((hin.fil _ ho.own_mem).f (by have:=ho.o1;omega))
 unfold Mesh.writeR
 split
 ·rename_i hk3
  split
  ·have e0:m.Repls[((r.setFilter P s.Text).1.ID-1).toNat]? =some r:=by rw[setFilter_id];exact hr0
   have st:=setFilter_step P ho s.Text
   have ok:=ho.setFilter hP (text:=s.Text)
   refine hm.with_ ok e0 st ((hin.mono (lore_step (m':=m.with_ (r.setFilter P s.Text).1) e0 rfl st fun v hv=>hv)).setFilter ho (hft hk3) (hm.own_in (m':=m.with_ (r.setFilter P s.Text).1) ok e0 rfl)) (fun v hv hr2=>by rw[setFilter_n];rw[setFilter_id]at hr2;exact hsn v hv hr2) (hhs.setFilter hG ho (fun v hv=>hin.held v hv) hap h.iv (hft hk3))
  ·exact hm
 ·split
  ·split
   ·rename_i h0
    obtain⟨dv,de⟩:=delete_v ho.hm h0
    obtain⟨dl,w,hw,dw,df⟩:=delete_room h0
    have e0:m.Repls[((r.delete s.Item).1.ID-1).toNat]? =some r:=by rw[delete_id];exact hr0
    have ok:=ho.delete h0
    have st:OStep r.own (r.delete s.Item).1.own:=by rw[de];exact write_step ho
    have ns:=delete_s h0
    have ne:∀u∈m.Issued,u.S≠(r.delete s.Item).2.1.S:=fun u hu e=>by
     have:=hsn u hu (by rw[e];exact ns.1)
     rw[e,ns.2]at this;omega
    refine hm2.wrote ok e0 st dv ?_ (by rw[delete_id];exact ns.1) (fun w hw hr2=>by rw[delete_id]at hr2;have:=hsn w hw hr2;have:=ns.2;omega) (by rw[de];exact Int.le_refl _) ?_
    ·have ov:=hm2.own_in (m':=m.wrote (r.delete s.Item).1 (r.delete s.Item).2.1) ok e0 rfl
     have le:m.lore.Le (m.wrote (r.delete s.Item).1 (r.delete s.Item).2.1).lore:=lore_step e0 rfl st (hs _)
     have hv:(r.delete s.Item).2.1∈(m.wrote (r.delete s.Item).1 (r.delete s.Item).2.1).lore.iss:=List.mem_append_right _ (List.mem_singleton.2 rfl)
     generalize (m.wrote (r.delete s.Item).1 (r.delete s.Item).2.1).lore=M at*
     rw[de]at ov ⊢
     rw[write_own ho]at ov
     exact(hin.mono le).write ho hv ov
    ·rw[de];exact hhs.write ho dv dl ne (.inr (.inr ⟨w,hw,dw,df _⟩))
   ·exact hm
  ·split
   ·rename_i h0
    obtain⟨dv,de⟩:=put_v h0
    obtain⟨dl,dr⟩:=put_room h0
    rw[hff]at dr
    have e0:m.Repls[((r.put P s.Item s.Attrs s.Tag s.Text).1.ID-1).toNat]? =some r:=by rw[put_id];exact hr0
    have ok:=ho.put h0
    have st:OStep r.own (r.put P s.Item s.Attrs s.Tag s.Text).1.own:=by rw[de];exact write_step ho
    have ns:=put_s h0
    have ne:∀u∈m.Issued,u.S≠(r.put P s.Item s.Attrs s.Tag s.Text).2.1.S:=fun u hu e=>by
     have:=hsn u hu (by rw[e];exact ns.1)
     rw[e,ns.2]at this;omega
    refine hm2.wrote ok e0 st dv ?_ (by rw[put_id];exact ns.1) (fun w hw hr2=>by rw[put_id]at hr2;have:=hsn w hw hr2;have:=ns.2;omega) (by rw[de];exact Int.le_refl _) ?_
    ·have ov:=hm2.own_in (m':=m.wrote (r.put P s.Item s.Attrs s.Tag s.Text).1 (r.put P s.Item s.Attrs s.Tag s.Text).2.1) ok e0 rfl
     have le:m.lore.Le (m.wrote (r.put P s.Item s.Attrs s.Tag s.Text).1 (r.put P s.Item s.Attrs s.Tag s.Text).2.1).lore:=lore_step e0 rfl st (hs _)
     have hv:(r.put P s.Item s.Attrs s.Tag s.Text).2.1∈(m.wrote (r.put P s.Item s.Attrs s.Tag s.Text).1 (r.put P s.Item s.Attrs s.Tag s.Text).2.1).lore.iss:=List.mem_append_right _ (List.mem_singleton.2 rfl)
     generalize (m.wrote (r.put P s.Item s.Attrs s.Tag s.Text).1 (r.put P s.Item s.Attrs s.Tag s.Text).2.1).lore=M at*
     rw[de]at ov ⊢
     rw[write_own ho]at ov
     exact(hin.mono le).write ho hv ov
    ·rw[de];exact hhs.write ho dv dl ne (dr.elim .inl fun e=> .inr (.inl e))
   ·exact hm
theorem newRepl_own {i size:Nat} {q:Int} (hi:i<size):(newRepl (i+1) size q).own=⟨(i:Int)+1,1,[42],[],List.replicate size 0⟩:=by
 have e:(newRepl (i+1) size q).own=newView (i+1) size i:=Go.Ab.own_at (id:=((i+1:Nat):Int)) (by
  rw[show(((i+1:Nat):Int)-1).toNat=i by omega]
  show((List.range size).map (newView (i+1) size))[i]? =_
  rw[List.getElem?_map,List.getElem?_range hi];rfl) (by omega)
 rw[e];unfold newView;rw[if_pos rfl]
theorem newMesh_at {edges:List Edge} {batch quota:Int} {i:Nat} (hi:i<size):(newMesh size edges batch quota).Repls[i]? =some (newRepl (i+1) size quota):=by
 show((List.range size).map fun i=>newRepl (i+1) size quota)[i]? =_
 rw[List.getElem?_map,List.getElem?_range hi];rfl
theorem newMesh_ov {edges:List Edge} {batch quota:Int} {i:Nat} (hi:i<size):(newMesh size edges batch quota).ov ((i:Int)+1)=⟨(i:Int)+1,1,[42],[],List.replicate size 0⟩:=by
 unfold Mesh.ov
 rw[show(((i:Int)+1)-1).toNat=i by omega,newMesh_at hi,Option.map_some,Option.getD_some,newRepl_own hi]
theorem newMesh_ok {edges:List Edge} {batch quota:Int} (h1:1≤size) (h5:size≤5) (hb0:1≤batch) (hb1:batch≤4) (hB:1≤B) (he:∀e∈edges,1≤e.A∧e.A<e.B∧e.B≤size) (hl:edges.length≤20) (hq:0≤quota):(newMesh size edges batch quota).Ok size B k:=by
 have hmem:∀r∈(newMesh size edges batch quota).Repls,∃i,i<size∧r=newRepl (i+1) size quota:=fun r hr=>by
  obtain⟨i,hi,rfl⟩:=List.mem_map.1 (show r∈(List.range size).map fun i=>newRepl (i+1) size quota from hr)
  exact⟨i,List.mem_range.1 hi,rfl⟩
 refine { s1:=h1,s5:=h5,sz:=rfl,b0:=hb0,b1:=hb1,rl:=by simp[newMesh],rs:=fun i r hr=> ?_,ed:=he,el:=hl,fl:=by simp[newMesh],fb:=fun g hg=>by simp[newMesh]at hg,il:=by simp[newMesh],iv:=fun v hv=>by simp[newMesh]at hv,ri:=fun r hr=> ?_,sn:=fun r hr v hv=>(by simp[newMesh]at hv),sd:=List.Pairwise.nil,fi:=fun x hx=>by simp[newMesh]at hx,hs:=fun r hr=> ?_ }
 ·have hi:i<size:=by have:=(List.getElem?_eq_some_iff.1 hr).1;simpa[newMesh]using this
  rw[newMesh_at hi]at hr;cases hr
  exact⟨newRepl_ok hi h5 hB,by simp[newRepl]⟩
 ·obtain⟨i,hi,rfl⟩:=hmem r hr
  refine newRepl_in _ _ _ fun w hw=> ?_
  obtain⟨j,hj,rfl⟩:=List.mem_map.1 (show w∈(List.range size).map (newView (i+1) size)from hw)
  have hj:=List.mem_range.1 hj
  have hov:=newMesh_ov (size:=size) (edges:=edges) (batch:=batch) (quota:=quota) hj
  unfold newView
  split
  ·refine oin_self ?_
   exact hov
  ·show OIn (newMesh size edges batch quota).ov _
   unfold OIn
   simp only
   rw[hov]
   exact⟨by simp,fun e=>by simp at e⟩
 ·obtain⟨i,hi,rfl⟩:=hmem r hr
  exact newRepl_hs hq (by rw[newRepl_own hi])
end
end Go.Ab
namespace Go.Ab
open Go
def edLt (a b:Edge):Prop:=a.A<b.A∨(a.A=b.A∧a.B<b.B)
instance (a b:Edge):Decidable (edLt a b):=by unfold edLt;infer_instance
theorem edLt_irr (a:Edge):¬edLt a a:=by unfold edLt;omega
theorem edLt_trans {a b c:Edge} (h1:edLt a b) (h2:edLt b c):edLt a c:=by unfold edLt at*;omega
theorem edLt_tri {a b:Edge} (h1:a≠b) (h2:¬edLt b a):edLt a b:=by
 unfold edLt at*
 have:¬(a.A=b.A∧a.B=b.B):=fun h=>h1 (by cases a;cases b;simp only at h;rw[h.1,h.2])
 omega
def joinE:List Edge→Edge→List Edge
 | [],e=>[e]
 |x::r,e=>if x=e then x::r else if edLt e x then e::x::r else x::joinE r e
theorem joinE_mem:∀ {l:List Edge} {e x:Edge},x∈joinE l e↔x∈l∨x=e
 | [],e,x=>by simp[joinE]
 |y::r,e,x=>by
  unfold joinE
  split
  ·rename_i h
   constructor
   ·exact .inl
   ·rintro(h'|rfl)
    ·exact h'
    ·rw[←h];exact List.mem_cons_self ..
  ·split
   ·simp only[List.mem_cons]
    constructor
    ·rintro(h|h|h)
     ·exact .inr h
     ·exact .inl (.inl h)
     ·exact .inl (.inr h)
    ·rintro((h|h)|h)
     ·exact .inr (.inl h)
     ·exact .inr (.inr h)
     ·exact .inl h
   ·simp only[List.mem_cons,joinE_mem (l:=r)]
    constructor
    ·rintro(h|h|h)
     ·exact .inl (.inl h)
     ·exact .inl (.inr h)
     ·exact .inr h
    ·rintro((h|h)|h)
     ·exact .inl h
     ·exact .inr (.inl h)
     ·exact .inr (.inr h)
theorem joinE_ord:∀ {l:List Edge} {e:Edge},l.Pairwise edLt→(joinE l e).Pairwise edLt
 | [],e,_=>by simp[joinE]
 |y::r,e,h=>by
  obtain⟨h1,h2⟩:=List.pairwise_cons.1 h
  unfold joinE
  split
  ·exact h
  ·rename_i hne
   split
   ·rename_i hlt
    refine List.pairwise_cons.2 ⟨fun x hx=> ?_,h⟩
    rcases List.mem_cons.1 hx with rfl|hx
    ·exact hlt
    ·exact edLt_trans hlt (h1 x hx)
   ·rename_i hlt
    refine List.pairwise_cons.2 ⟨fun x hx=> ?_,joinE_ord h2⟩
    rcases joinE_mem.1 hx with hx|rfl
    ·exact h1 x hx
    ·exact edLt_tri hne hlt
theorem joinE_pre:∀ {l r:List Edge} {e:Edge},(∀x∈l,edLt x e)→joinE (l++r) e=l++joinE r e
 | [],r,e,_=>rfl
 |x::l,r,e,h=>by
  have hx:=h x (List.mem_cons_self ..)
  have e0:joinE (x::(l++r)) e=if x=e then x::(l++r)else if edLt e x then e::x::(l++r)else x::joinE (l++r) e:=rfl
  rw[List.cons_append,e0,if_neg (fun e'=>edLt_irr x (by rw[←e']at hx;exact hx)),if_neg (fun h'=>edLt_irr x (edLt_trans hx h')),joinE_pre fun z hz=>h z (List.mem_cons_of_mem _ hz)]
  rfl
theorem joinE_len (l:List Edge) (e:Edge):(joinE l e).length≤l.length+1:=by
 induction l with
 |nil=>simp[joinE]
 |cons x r ih=>
  unfold joinE
  split
  ·simp
  ·split
   ·simp
   ·simp only[List.length_cons];omega
structure Joining (l:List Edge) (e:Edge) (k:Nat) (put:Bool) (out:List Edge):Prop where
 no:put=false→out=l.take k∧∀x∈l.take k,edLt x e
 yes:put=true→out++l.drop k=joinE l e∧∀x∈l.drop k,x≠e
theorem Joining.start (l:List Edge) (e:Edge):Joining l e 0 false [] :=⟨fun _=>⟨by simp,by simp⟩,fun h=>by cases h⟩
section
variable {l out:List Edge} {e x:Edge} {k:Nat}
theorem Joining.same (h:Joining l e k false out) (hx:l[k]? =some e):l=joinE l e:=by
 obtain⟨h1,h2⟩:=h.no rfl
 have hd:l.drop k=e::l.drop (k+1):=drop_at hx
 have e1:l=l.take k++l.drop k:=(List.take_append_drop k l).symm
 conv=>rhs;rw[e1,joinE_pre h2,hd]
 unfold joinE;rw[if_pos rfl,←hd,List.take_append_drop]
theorem Joining.next (h:Joining l e k false out) (hx:l[k]? =some x) (hne:x≠e) (hlt:¬edLt e x):Joining l e (k+1) false (out++[x]):=by
 obtain⟨h1,h2⟩:=h.no rfl
 refine⟨fun _=>⟨by rw[h1,take_succ hx],fun z hz=> ?_⟩,fun h=>by cases h⟩
 rw[take_succ hx]at hz
 rcases List.mem_append.1 hz with hz|hz
 ·exact h2 z hz
 ·rw[List.mem_singleton.1 hz];exact edLt_tri hne hlt
theorem Joining.put (hp:l.Pairwise edLt) (h:Joining l e k false out) (hx:l[k]? =some x) (hne:x≠e) (hlt:edLt e x):Joining l e (k+1) true (out++[e]++[x]):=by
 obtain⟨h1,h2⟩:=h.no rfl
 have hd:l.drop k=x::l.drop (k+1):=drop_at hx
 have e1:l=l.take k++l.drop k:=(List.take_append_drop k l).symm
 refine⟨fun h=>(by cases h),fun _=>⟨?_,fun z hz hze=> ?_⟩⟩
 ·conv=>rhs;rw[e1,joinE_pre h2,hd]
  unfold joinE
  rw[if_neg hne,if_pos hlt,h1]
  simp
 ·subst hze
  have hp2:(l.drop k).Pairwise edLt:=hp.sublist (List.drop_sublist _ _)
  rw[hd]at hp2
  have:=(List.pairwise_cons.1 hp2).1 z hz
  exact edLt_irr z (edLt_trans hlt this)
theorem Joining.on (h:Joining l e k true out) (hx:l[k]? =some x):Joining l e (k+1) true (out++[x]):=by
 obtain⟨h1,h2⟩:=h.yes rfl
 have hd:l.drop k=x::l.drop (k+1):=drop_at hx
 refine⟨fun h=>(by cases h),fun _=>⟨?_,fun z hz=>h2 z (by rw[hd];exact List.mem_cons_of_mem _ hz)⟩⟩
 rw[←h1,hd];simp
theorem Joining.on_ne (h:Joining l e k true out) (hx:l[k]? =some x):x≠e:=(h.yes rfl).2 x (by rw[drop_at hx];exact List.mem_cons_self ..)
theorem Joining.done (h:Joining l e k true out) (hk:l.length≤k):out=joinE l e:=by
 have:=(h.yes rfl).1
 rw[List.drop_of_length_le hk,List.append_nil]at this;exact this
theorem Joining.last (h:Joining l e k false out) (hk:l.length≤k):out++[e]=joinE l e:=by
 obtain⟨h1,h2⟩:=h.no rfl
 rw[List.take_of_length_le hk]at h1 h2
 have:=joinE_pre (r:= []) h2
 rw[List.append_nil]at this
 rw[this,h1];rfl
end
theorem row_eq {T:Type} {lt:T→T→Prop} (irr:∀a,¬lt a a) (tr:∀ {a b c},lt a b→lt b c→lt a c):∀ {l k:List T},l.Pairwise lt→k.Pairwise lt→(∀x,x∈l↔x∈k)→l=k
 | [],[],_,_,_=>rfl
 | [],y::k,_,_,h=>absurd ((h y).2 (List.mem_cons_self ..)) (by simp)
 |x::l,[],_,_,h=>absurd ((h x).1 (List.mem_cons_self ..)) (by simp)
 |x::l,y::k,hl,hk,h=>by
  obtain⟨l1,l2⟩:=List.pairwise_cons.1 hl
  obtain⟨k1,k2⟩:=List.pairwise_cons.1 hk
  have e:x=y:=by
   rcases List.mem_cons.1 ((h x).1 (List.mem_cons_self ..))with e|hx
   ·exact e
   ·rcases List.mem_cons.1 ((h y).2 (List.mem_cons_self ..))with e|hy
    ·exact e.symm
    ·exact absurd (tr (k1 x hx) (l1 y hy)) (irr y)
  subst e
  rw[row_eq irr tr l2 k2 fun z=> ?_]
  constructor
  ·intro hz
   rcases List.mem_cons.1 ((h z).1 (List.mem_cons_of_mem _ hz))with rfl|hz'
   ·exact absurd (l1 z hz) (irr z)
   ·exact hz'
  ·intro hz
   rcases List.mem_cons.1 ((h z).2 (List.mem_cons_of_mem _ hz))with rfl|hz'
   ·exact absurd (k1 z hz) (irr z)
   ·exact hz'
structure EdgesOk (size:Nat) (es:List Edge):Prop where
 o:es.Pairwise edLt
 r:∀e∈es,1≤e.A∧e.A<e.B∧e.B≤size
 c:∀b:Nat,2≤b→b≤size→∃e∈es,e.B=b
theorem EdgesOk.none:EdgesOk 1 [] :=⟨List.Pairwise.nil,fun e he=>(by cases he),fun b h1 h2=>(by omega)⟩
theorem EdgesOk.step {b:Nat} {es:List Edge} {a:Int} (h:EdgesOk b es) (h1:1≤a) (h2:a≤b):EdgesOk (b+1) (joinE es ⟨a,(b:Int)+1⟩):=by
 refine⟨joinE_ord h.o,fun e he=> ?_,fun c c1 c2=> ?_⟩
 ·rcases joinE_mem.1 he with he|rfl
  ·have:=h.r e he;omega
  ·simp only;omega
 ·by_cases e:c=b+1
  ·exact⟨_,joinE_mem.2 (.inr rfl),by simp only;omega⟩
  ·obtain⟨x,hx,hb⟩:=h.c c c1 (by omega)
   exact⟨x,joinE_mem.2 (.inl hx),hb⟩
theorem EdgesOk.more {size:Nat} {es:List Edge} {e:Edge} (h:EdgesOk size es) (h1:1≤e.A) (h2:e.A<e.B) (h3:e.B≤size):EdgesOk size (joinE es e):=by
 refine⟨joinE_ord h.o,fun x hx=> ?_,fun c c1 c2=> ?_⟩
 ·rcases joinE_mem.1 hx with hx|rfl
  ·exact h.r x hx
  ·exact⟨h1,h2,h3⟩
 ·obtain⟨x,hx,hb⟩:=h.c c c1 c2
  exact⟨x,joinE_mem.2 (.inl hx),hb⟩
def allE:List Edge:=[⟨1,2⟩,⟨1,3⟩,⟨1,4⟩,⟨2,3⟩,⟨2,4⟩,⟨3,4⟩]
theorem EdgesOk.among {size:Nat} {es:List Edge} (h:EdgesOk size es) (hs:size≤4):es=allE.filter fun e=>decide (e∈es):=by
 refine row_eq edLt_irr (fun h1 h2=>edLt_trans h1 h2) h.o ?_ fun x=> ?_
 ·exact List.Pairwise.filter _ (by decide)
 ·rw[List.mem_filter]
  constructor
  ·intro hx
   refine⟨?_,by simpa using hx⟩
   obtain⟨h1,h2,h3⟩:=h.r x hx
   obtain⟨a,b⟩:=x
   simp only at h1 h2 h3
   have ha:a=1∨a=2∨a=3:=by omega
   have hb:b=2∨b=3∨b=4:=by omega
   rcases ha with rfl|rfl|rfl<;>rcases hb with rfl|rfl|rfl<;>first|omega|decide
  ·intro hx;simpa using hx.2
end Go.Ab
