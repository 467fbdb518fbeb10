/- What slices.Delete and slices.Insert leave: cells written over, as rows. -/
import Derived.Test.YtmhceknpmokahaaGreatDoorG2
import Derived.WalkKit
import Derived.ProofKit
import Derived.Lib.SliceRun
import Derived.Shelf.RegionOpenPlain
import Derived.Lib.Walk
import Derived.Deep.RegionLaw
namespace Go.Ab
open Go Go.Proofs
section
variable {P:Program} {w:World} {Φg Φ Φ₀:Phi} {m i₀:LMap} {w₀:World}
def over (xs:List AV) (p:Nat) (ys:List AV):List AV:=xs.take p++ys++xs.drop (p+ys.length)
theorem over_len {xs ys:List AV} {p:Nat} (h:p+ys.length≤xs.length):(over xs p ys).length=xs.length:=by simp[over];omega
theorem over_get {xs ys:List AV} {p:Nat} (h:p+ys.length≤xs.length) (i:Nat):(over xs p ys)[i]? =if i<p then xs[i]? else if i<p+ys.length then ys[i-p]? else xs[i]? :=by
 have ht:(xs.take p).length=p:=by rw[List.length_take];omega
 unfold over
 by_cases h1:i<p
 ·rw[if_pos h1,List.append_assoc,List.getElem?_append_left (by omega),List.getElem?_take,if_pos h1]
 ·rw[if_neg h1]
  by_cases h2:i<p+ys.length
  ·rw[if_pos h2,List.getElem?_append_left (by rw[List.length_append];omega),List.getElem?_append_right (by omega),ht]
  ·rw[if_neg h2,List.getElem?_append_right (by rw[List.length_append];omega),List.length_append,ht,List.getElem?_drop]
   congr 1;omega
theorem RowOk.over {st:Site} {e b size p:Nat} {xs ys:List AV} {news:List Value} (h:RowOk Φ m w st e xs true b size) (hys:∀v∈ys,v.cells.length=e∧allOneCell v.cells=true) (hnews:Rs Φ m0 (ys.flatMap AV.cells) news) (hp:p+ys.length≤xs.length):
  RowOk Φ m (w.setCells b (p*e) news) st e (over xs p ys) true b size:=by
 have hye:∀v∈ys,v.cells.length=e:=fun v hv=>(hys v hv).1
 have hnl:news.length=ys.length*e:=by rw[←hnews.1,flat_len hye]
 have hin:∀ {i:Nat} {v:AV},(Go.Ab.over xs p ys)[i]? =some v→(v∈ys∨xs[i]? =some v):=fun {i v} hv=>by
  rw[over_get hp]at hv
  split at hv
  ·exact .inr hv
  ·split at hv
   ·exact .inl (List.mem_of_getElem? hv)
   ·exact .inr hv
 obtain⟨tt,hsh⟩:=h.shape
 refine⟨by rw[over_len hp];exact h.loc,h.pos,by rw[over_len hp];exact h.len,⟨tt,by rw[setCells_shape];exact hsh⟩,fun i v hv=> ?_,fun i v j c hv hc=> ?_,fun o ho=>by rw[World.frozen?_setCells];exact h.nf o ho,h.phi,fun o ho=>absurd (h.phi rfl o) ho,fun i v hv=> ?_⟩
 ·rcases hin hv with hv|hv
  ·exact hye v hv
  ·exact h.each i v hv
 ·have hlen:=h.len
  rw[over_get hp]at hv
  have out:(i<p∨p+ys.length≤i)→xs[i]? =some v→∃x,(w.setCells b (p*e) news).cell? ⟨b,i*e+j,none⟩=some x∧R Φ m0 c x:=fun ho hv=>by
   obtain⟨x,hx,hr⟩:=h.cell i v j c hv hc
   refine⟨x, ?_,hr⟩
   have hj:j<e:=by rw[←h.each i v hv];exact(List.getElem?_eq_some_iff.1 hc).1
   rw[World.cell?_setCells_out b news (p*e) w _ fun _ _=> ?_]
   ·exact hx
   ·rcases ho with ho|ho
    ·left
     have:(i+1)*e≤p*e:=Nat.mul_le_mul_right _ ho
     rw[Nat.add_mul,Nat.one_mul]at this
     show i*e+j<p*e
     omega
    ·right
     have:(p+ys.length)*e≤i*e:=Nat.mul_le_mul_right _ ho
     rw[Nat.add_mul]at this
     show p*e+news.length≤i*e+j
     omega
  split at hv
  ·rename_i h1;exact out (.inl h1) hv
  ·split at hv
   ·rename_i h1 h2
    obtain⟨x,hx,hr⟩:=hnews.2 _ _ (flat_at hye hv hc)
    refine⟨x, ?_,hr⟩
    have hlt:(i-p)*e+j<news.length:=(List.getElem?_eq_some_iff.1 hx).1
    have:=World.cell?_setCells_in b news (p*e) w (fun q hq=>shape_cell hsh (by
     have:(p+ys.length)*e≤xs.length*e:=Nat.mul_le_mul_right _ hp
     rw[Nat.add_mul]at this
     omega)) _ hlt
    have hix:i*e+j=p*e+((i-p)*e+j):=by
     have:i*e=p*e+(i-p)*e:=by rw[←Nat.add_mul];congr 1;omega
     omega
    rw[hix,this]
    exact congrArg some (List.getElem?_eq_some_iff.1 hx).2
   ·rename_i h1 h2;exact out (.inr (by omega)) hv
 ·rcases hin hv with hv|hv
  ·exact(hys v hv).2
  ·exact h.one i v hv
def orK (k l:FuncId→List AV→List Blk→Option Res) (f:FuncId) (args:List AV) (inc:List Blk):Option Res:=
 match k f args inc with
 |some r=>some r
 |none=>l f args inc
theorem orK_ok {k l:FuncId→List AV→List Blk→Option Res} (hk:∀f args inc r,k f args inc=some r→SoundCall P Φg f args inc r) (hl:∀f args inc r,l f args inc=some r→SoundCall P Φg f args inc r)
  (f:FuncId) (args:List AV) (inc:List Blk) (r:Res) (h:orK k l f args inc=some r):SoundCall P Φg f args inc r:=by
 unfold orK at h
 split at h
 ·rename_i hx;cases h;exact hk _ _ _ _ hx
 ·exact hl _ _ _ _ h
structure InsCalls (P:Program) (f:FuncId) (e:Nat) (te:TypeId) (bytes:Nat):Prop where
 a:∀(b n c vb vc size:Nat) (tt:TypeId) (ys:List Value) (w:World),n+1≤c→w.shape? b=some (tt,size)→(n+1)*e≤size→(∀q,w.frozen? ⟨b,q,none⟩=false)→
  ys.length=e→(∀j v,ys[j]? =some v→w.cell? ⟨vb,j,none⟩=some v)→(∀u∈ys,u.oneCell'=true)→
  Calls P f #[.slice (some ⟨b,0,none⟩) n c,.int .i64 n,.slice (some ⟨vb,0,none⟩) 1 vc] w fun x w'=>x= .returned (.slice (some ⟨b,0,none⟩) (n+1) c)∧w'=w.setCells b (n*e) ys
 b:∀(ba:Option Addr) (n c vb vc:Nat) (ys olds:List Value) (w:World),n≤c→c<n+1→(n+1)*bytes≤140737488355328→(Builtin.firstCells e n (.slice ba n c)).run P w.drew= .ok olds.toArray w.drew→olds.length=n*e→
  ys.length=e→(∀j v,ys[j]? =some v→w.cell? ⟨vb,j,none⟩=some v)→
  Calls P f #[.slice ba n c,.int .i64 n,.slice (some ⟨vb,0,none⟩) 1 vc] w fun x w'=>∃(ROW:Array Value) (G:Nat),n+1≤G∧ROW.size=G*e∧ROW.toList.take ((n+1)*e)=olds++ys∧
   x= .returned (.slice (some ⟨w.heap.size,0,none⟩) (n+1) G)∧w'=w.drew.alloc (.cells ROW te)
 c:∀(b n c i vb vc size vsz:Nat) (tt vt:TypeId) (ys olds:List Value) (w:World),i<n→n+1≤140737488355328→n+1≤c→w.shape? b=some (tt,size)→(n+1)*e≤size→(∀q,w.frozen? ⟨b,q,none⟩=false)→
  w.shape? vb=some (vt,vsz)→(∀q,w.frozen? ⟨vb,q,none⟩=false)→vb≠b→ys.length=e→(∀j v,ys[j]? =some v→w.cell? ⟨vb,j,none⟩=some v)→(∀u∈ys,u.oneCell'=true)→
  olds.length=(n-i)*e→(∀j v,olds[j]? =some v→w.cell? ⟨b,i*e+j,none⟩=some v)→(∀u∈olds,u.oneCell'=true)→
  Calls P f #[.slice (some ⟨b,0,none⟩) n c,.int .i64 i,.slice (some ⟨vb,0,none⟩) 1 vc] w fun x w'=>x= .returned (.slice (some ⟨b,0,none⟩) (n+1) c)∧w'=(w.drew.setCells b ((i+1)*e) olds).setCells b (i*e) ys
 d:∀(b n c i vb vc:Nat) (ys olds front:List Value) (w:World),i<n→n≤c→c<n+1→(n+1)*bytes≤140737488355328→b<w.heap.size→vb<w.heap.size→
  front.length=i*e→(∀j v,front[j]? =some v→w.cell? ⟨b,j,none⟩=some v)→ys.length=e→(∀j v,ys[j]? =some v→w.cell? ⟨vb,j,none⟩=some v)→(∀u∈ys,u.oneCell'=true)→
  olds.length=(n-i)*e→(∀j v,olds[j]? =some v→w.cell? ⟨b,i*e+j,none⟩=some v)→(∀u∈olds,u.oneCell'=true)→
  Calls P f #[.slice (some ⟨b,0,none⟩) n c,.int .i64 i,.slice (some ⟨vb,0,none⟩) 1 vc] w fun x w'=>∃(ROW:Array Value) (G:Nat),n+1≤G∧ROW.size=G*e∧ROW.toList.take (i*e)=front∧
   x= .returned (.slice (some ⟨w.heap.size,0,none⟩) (n+1) G)∧w'=(((w.drew.alloc (.cells ROW te)).setCells w.heap.size (i*e) ys).drew).setCells w.heap.size ((i+1)*e) olds
structure Ent where
 f:FuncId
 args:List AV
 inc:List Blk
 r:Res
def Ent.Ok (P:Program) (Φg:Phi) (e:Ent):Prop:=SoundCall P Φg e.f e.args e.inc e.r
end
end Go.Ab
