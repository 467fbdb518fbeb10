/- A runner of the program's code on values without memory, and the proof that it is right: part 3. No condition. -/
import Derived.Test.YtmhceknpmokahaaGreatDoorG2
import Derived.ProofKit
import Derived.WalkKit
import Derived.WideShapes
import Derived.DataReads
import Derived.ChangeShapes
import Derived.ReadAgain
import Derived.ChangeMaps5
import Derived.RowKit
namespace Go.Ab
open Go
theorem wI64' (n:Int) (h0: -9223372036854775808≤n:=by omega) (h1:n≤9223372036854775807:=by omega):IntKind.i64.wrap n=n:=wI64 h0 h1
theorem wU8' (n:Int) (h0:0≤n:=by omega) (h1:n≤255:=by omega):IntKind.u8.wrap n=n:=wU8 h0 h1
theorem wU64' (n:Int) (h0:0≤n:=by omega) (h1:n≤18446744073709551615:=by omega):IntKind.u64.wrap n=n:=wU64 h0 h1
variable {α:Type} {X:Ctx} {fid:FuncId} {Q:α→Prop} {d:DT α}
namespace Sat
theorem t {c:Bool} (hc:c=true) (k:Sat X fid d.nodeA Q) (h:d.nodeC=some c:=by kernel_rfl):Sat X fid d Q:=pNodeT c h hc k
theorem f {c:Bool} (hc:c=false) (k:Sat X fid d.nodeB Q) (h:d.nodeC=some c:=by kernel_rfl):Sat X fid d Q:=pNodeF c h hc k
theorem T (k:Sat X fid d.nodeA Q) (h:d.nodeC=some true:=by kernel_rfl):Sat X fid d Q:=pNodeT true h rfl k
theorem F (k:Sat X fid d.nodeB Q) (h:d.nodeC=some false:=by kernel_rfl):Sat X fid d Q:=pNodeF false h rfl k
theorem x {c:Bool} (hc:c=true) (k:Sat X fid d.nodeB Q) (h:d.nodeC=some (!c):=by kernel_rfl):Sat X fid d Q:=pNodeF _ h (by rw[hc];rfl) k
theorem y {c:Bool} (hc:c=false) (k:Sat X fid d.nodeA Q) (h:d.nodeC=some (!c):=by kernel_rfl):Sat X fid d Q:=pNodeT _ h (by rw[hc];rfl) k
theorem n (c:Bool) (ha:c=true→Sat X fid d.nodeA Q) (hb:c=false→Sat X fid d.nodeB Q) (h:d.nodeC=some c:=by kernel_rfl):Sat X fid d Q:=pNode c h ha hb
theorem m (c:Bool) (ha:c=false→Sat X fid d.nodeA Q) (hb:c=true→Sat X fid d.nodeB Q) (h:d.nodeC=some (!c):=by kernel_rfl):Sat X fid d Q:=pNodeN c h ha hb
theorem i (p:Prop) [Decidable p] (ha:p→Sat X fid d.nodeA Q) (hb:¬p→Sat X fid d.nodeB Q) (h:d.nodeC=some (decide p):=by kernel_rfl):Sat X fid d Q:=pIf p h ha hb
theorem j (p:Prop) [Decidable p] (ha:¬p→Sat X fid d.nodeA Q) (hb:p→Sat X fid d.nodeB Q) (h:d.nodeC=some (!decide p):=by kernel_rfl):Sat X fid d Q:=pIfN p h ha hb
theorem k (p p':Prop) [Decidable p] (hp:p↔p') (ha:p'→Sat X fid d.nodeA Q) (hb:¬p'→Sat X fid d.nodeB Q) (h:d.nodeC=some (decide p):=by kernel_rfl):Sat X fid d Q:=pIfE p p' h hp ha hb
theorem l (p p':Prop) [Decidable p] (hp:p↔p') (ha:¬p'→Sat X fid d.nodeA Q) (hb:p'→Sat X fid d.nodeB Q) (h:d.nodeC=some (!decide p):=by kernel_rfl):Sat X fid d Q:=pIfEN p p' h hp ha hb
theorem kl {T:Type} (enc:T→AV) (l:List T) (i:Nat) (ha:i<l.length→Sat X fid d.nodeA Q) (hb:¬i<l.length→Sat X fid d.nodeB Q) (h:d.nodeC=some (decide ((i:Int)<((l.map enc).length:Int))):=by kernel_rfl):Sat X fid d Q:=pIfE _ _ h (by simp only[List.length_map,Int.ofNat_lt]) ha hb
theorem el {T:Type} (enc:T→AV) {l:List T} {i:Nat} (h':i<l.length) (k:Sat X fid d.nodeA Q) (h:d.nodeC=some (decide ((i:Int)<((l.map enc).length:Int))):=by kernel_rfl):Sat X fid d Q:=pIfET _ _ h (by simp only[List.length_map,Int.ofNat_lt]) h' k
theorem en {T:Type} (enc:T→AV) {l:List T} {i:Nat} (h':¬i<l.length) (k:Sat X fid d.nodeB Q) (h:d.nodeC=some (decide ((i:Int)<((l.map enc).length:Int))):=by kernel_rfl):Sat X fid d Q:=pIfEF _ _ h (by simp only[List.length_map,Int.ofNat_lt]) h' k
theorem it {p:Prop} [Decidable p] (h':p) (k:Sat X fid d.nodeA Q) (h:d.nodeC=some (decide p):=by kernel_rfl):Sat X fid d Q:=pIfET p p h Iff.rfl h' k
theorem iF {p:Prop} [Decidable p] (h':¬p) (k:Sat X fid d.nodeB Q) (h:d.nodeC=some (decide p):=by kernel_rfl):Sat X fid d Q:=pIfEF p p h Iff.rfl h' k
theorem iu {p:Prop} [Decidable p] (h':¬p) (k:Sat X fid d.nodeA Q) (h:d.nodeC=some (!decide p):=by kernel_rfl):Sat X fid d Q:=pIfENT p p h Iff.rfl h' k
theorem iv {p:Prop} [Decidable p] (h':p) (k:Sat X fid d.nodeB Q) (h:d.nodeC=some (!decide p):=by kernel_rfl):Sat X fid d Q:=pIfENF p p h Iff.rfl h' k
theorem et (p:Prop) {p':Prop} [Decidable p] (hp:p↔p') (h':p') (k:Sat X fid d.nodeA Q) (h:d.nodeC=some (decide p):=by kernel_rfl):Sat X fid d Q:=pIfET p p' h hp h' k
theorem eF (p:Prop) {p':Prop} [Decidable p] (hp:p↔p') (h':¬p') (k:Sat X fid d.nodeB Q) (h:d.nodeC=some (decide p):=by kernel_rfl):Sat X fid d Q:=pIfEF p p' h hp h' k
theorem ev (p:Prop) {p':Prop} [Decidable p] (hp:p↔p') (h':p') (k:Sat X fid d.nodeB Q) (h:d.nodeC=some (!decide p):=by kernel_rfl):Sat X fid d Q:=pIfENF p p' h hp h' k
theorem c {g:FuncId} {args:List AV} {inc:List Blk} {r:Res} (hc:X.call g args inc r) (k:Sat X fid (d.callK r) Q) (h:d.callC=some (g,args,inc):=by kernel_rfl):Sat X fid d Q:=pCall g args inc r h hc k
theorem D {F:Prop} {g:FuncId} {args:List AV} {inc:List Blk} {r:Res} {dt:DT α} (hc:X.call g args inc r∧F) (k:F→Sat X fid (dt.callK r) Q) (h:dt.callC=some (g,args,inc):=by kernel_rfl):Sat X fid dt Q:=pCall g args inc r h hc.1 (k hc.2)
theorem C (args:List AV) (inc:List Blk) {g:FuncId} {args':List AV} {inc':List Blk} {r:Res} (ha:args=args') (hi:inc=inc') (hc:X.call g args' inc' r) (k:Sat X fid (d.callK r) Q) (h:d.callC=some (g,args,inc):=by kernel_rfl):Sat X fid d Q:=pCallE g args inc h ha hi hc k
theorem q (a:α) (hq:Q a) (h:d.retV=some a:=by kernel_rfl):Sat X fid d Q:=pRet a h hq
theorem em {T:Type} (enc:T→AV) (l:List T) (i:Nat) (hi:i<l.length) (k:∀x,l[i]? =some x→Sat X fid (d.elemK (enc x)) Q) (h:d.elemC=some (l.map enc,i):=by kernel_rfl):Sat X fid d Q:=pElemM enc l _ i h rfl hi k
theorem eM {T:Type} (enc:T→AV) (l:List T) (i i':Nat) (e:i=i') (hi:i'<l.length) (k:∀x,l[i']? =some x→Sat X fid (d.elemK (enc x)) Q) (h:d.elemC=some (l.map enc,i):=by kernel_rfl):Sat X fid d Q:=pElemME enc l _ i i' h e rfl hi k
theorem eH {T:Type} (enc:T→AV) (l:List T) (i:Nat) {i':Nat} {x:T} (e:i=i') (hx:l[i']? =some x) (k:Sat X fid (d.elemK (enc x)) Q) (h:d.elemC=some (l.map enc,i):=by kernel_rfl):Sat X fid d Q:=pElemH enc l _ i i' x h e rfl hx k
theorem eh {T:Type} (enc:T→AV) {l:List T} {i:Nat} {x:T} (hx:l[i]? =some x) (k:Sat X fid (d.elemK (enc x)) Q) (h:d.elemC=some (l.map enc,i):=by kernel_rfl):Sat X fid d Q:=pElemH enc l _ i i x h rfl rfl hx k
theorem bm (bs:List UInt8) (i:Nat) (hi:i<bs.length) (k:∀x,bs[i]? =some x→Sat X fid (d.byteK x) Q) (h:d.byteC=some (bs,i):=by kernel_rfl):Sat X fid d Q:=pByteM bs i h hi k
theorem bh {bs:List UInt8} {i:Nat} {x:UInt8} (hx:bs[i]? =some x) (k:Sat X fid (d.byteK x) Q) (h:d.byteC=some (bs,i):=by kernel_rfl):Sat X fid d Q:=pByteH bs i i x h rfl hx k
theorem z {T:Type} (enc:T→AV) (l:List T) (e:Nat) (hn:∀x,(enc x).cells.length=e) (k:Sat X fid d.eszK Q) (h:d.eszC=some (l.map enc,e):=by kernel_rfl):Sat X fid d Q:=pEszM enc l _ e h rfl hn k
theorem B (xs:List AV) (bs:List UInt8) (hv:xs=bs.map (fun c=>AV.int .u8 c.toNat)) (k:Sat X fid (d.bytesK bs) Q) (h:d.bytesC=some xs:=by kernel_rfl):Sat X fid d Q:=pBytes xs bs h hv k
theorem A {d0:DT α} {s:St} (s':St) (he:s'=s) (k:Sat X fid (d0.loopAt s) Q) (h:d=d0.loopAt s':=by kernel_rfl):Sat X fid d Q:=pAgainE s' h he k
theorem a {d0:DT α} {s:St} (k:Sat X fid (d0.loopAt s) Q) (h:d=d0.loopAt s:=by kernel_rfl):Sat X fid d Q:=pAgainE s h rfl k
theorem r {a:α} (h:d.retV=some a:=by kernel_rfl):Sat X fid d (fun r=>r=a):=pRet a h rfl
theorem b (ha:Sat X fid d.ambA Q) (hb:Sat X fid d.ambB Q) (h:d.ambC=true:=by kernel_rfl):Sat X fid d Q:=pAmb h ha hb
end Sat
namespace SatE
theorem t {c:Bool} (hc:c=true) (k:SatE X fid d.nodeA Q) (h:d.nodeC=some c:=by kernel_rfl):SatE X fid d Q:=pNodeT c h hc k
theorem f {c:Bool} (hc:c=false) (k:SatE X fid d.nodeB Q) (h:d.nodeC=some c:=by kernel_rfl):SatE X fid d Q:=pNodeF c h hc k
theorem T (k:SatE X fid d.nodeA Q) (h:d.nodeC=some true:=by kernel_rfl):SatE X fid d Q:=pNodeT true h rfl k
theorem F (k:SatE X fid d.nodeB Q) (h:d.nodeC=some false:=by kernel_rfl):SatE X fid d Q:=pNodeF false h rfl k
theorem x {c:Bool} (hc:c=true) (k:SatE X fid d.nodeB Q) (h:d.nodeC=some (!c):=by kernel_rfl):SatE X fid d Q:=pNodeF _ h (by rw[hc];rfl) k
theorem y {c:Bool} (hc:c=false) (k:SatE X fid d.nodeA Q) (h:d.nodeC=some (!c):=by kernel_rfl):SatE X fid d Q:=pNodeT _ h (by rw[hc];rfl) k
theorem n (c:Bool) (ha:c=true→SatE X fid d.nodeA Q) (hb:c=false→SatE X fid d.nodeB Q) (h:d.nodeC=some c:=by kernel_rfl):SatE X fid d Q:=pNode c h ha hb
theorem m (c:Bool) (ha:c=false→SatE X fid d.nodeA Q) (hb:c=true→SatE X fid d.nodeB Q) (h:d.nodeC=some (!c):=by kernel_rfl):SatE X fid d Q:=pNodeN c h ha hb
theorem i (p:Prop) [Decidable p] (ha:p→SatE X fid d.nodeA Q) (hb:¬p→SatE X fid d.nodeB Q) (h:d.nodeC=some (decide p):=by kernel_rfl):SatE X fid d Q:=pIf p h ha hb
theorem j (p:Prop) [Decidable p] (ha:¬p→SatE X fid d.nodeA Q) (hb:p→SatE X fid d.nodeB Q) (h:d.nodeC=some (!decide p):=by kernel_rfl):SatE X fid d Q:=pIfN p h ha hb
theorem k (p p':Prop) [Decidable p] (hp:p↔p') (ha:p'→SatE X fid d.nodeA Q) (hb:¬p'→SatE X fid d.nodeB Q) (h:d.nodeC=some (decide p):=by kernel_rfl):SatE X fid d Q:=pIfE p p' h hp ha hb
theorem l (p p':Prop) [Decidable p] (hp:p↔p') (ha:¬p'→SatE X fid d.nodeA Q) (hb:p'→SatE X fid d.nodeB Q) (h:d.nodeC=some (!decide p):=by kernel_rfl):SatE X fid d Q:=pIfEN p p' h hp ha hb
theorem kl {T:Type} (enc:T→AV) (l:List T) (i:Nat) (ha:i<l.length→SatE X fid d.nodeA Q) (hb:¬i<l.length→SatE X fid d.nodeB Q) (h:d.nodeC=some (decide ((i:Int)<((l.map enc).length:Int))):=by kernel_rfl):SatE X fid d Q:=pIfE _ _ h (by simp only[List.length_map,Int.ofNat_lt]) ha hb
theorem el {T:Type} (enc:T→AV) {l:List T} {i:Nat} (h':i<l.length) (k:SatE X fid d.nodeA Q) (h:d.nodeC=some (decide ((i:Int)<((l.map enc).length:Int))):=by kernel_rfl):SatE X fid d Q:=pIfET _ _ h (by simp only[List.length_map,Int.ofNat_lt]) h' k
theorem en {T:Type} (enc:T→AV) {l:List T} {i:Nat} (h':¬i<l.length) (k:SatE X fid d.nodeB Q) (h:d.nodeC=some (decide ((i:Int)<((l.map enc).length:Int))):=by kernel_rfl):SatE X fid d Q:=pIfEF _ _ h (by simp only[List.length_map,Int.ofNat_lt]) h' k
theorem it {p:Prop} [Decidable p] (h':p) (k:SatE X fid d.nodeA Q) (h:d.nodeC=some (decide p):=by kernel_rfl):SatE X fid d Q:=pIfET p p h Iff.rfl h' k
theorem iF {p:Prop} [Decidable p] (h':¬p) (k:SatE X fid d.nodeB Q) (h:d.nodeC=some (decide p):=by kernel_rfl):SatE X fid d Q:=pIfEF p p h Iff.rfl h' k
theorem iu {p:Prop} [Decidable p] (h':¬p) (k:SatE X fid d.nodeA Q) (h:d.nodeC=some (!decide p):=by kernel_rfl):SatE X fid d Q:=pIfENT p p h Iff.rfl h' k
theorem iv {p:Prop} [Decidable p] (h':p) (k:SatE X fid d.nodeB Q) (h:d.nodeC=some (!decide p):=by kernel_rfl):SatE X fid d Q:=pIfENF p p h Iff.rfl h' k
theorem et (p:Prop) {p':Prop} [Decidable p] (hp:p↔p') (h':p') (k:SatE X fid d.nodeA Q) (h:d.nodeC=some (decide p):=by kernel_rfl):SatE X fid d Q:=pIfET p p' h hp h' k
theorem eF (p:Prop) {p':Prop} [Decidable p] (hp:p↔p') (h':¬p') (k:SatE X fid d.nodeB Q) (h:d.nodeC=some (decide p):=by kernel_rfl):SatE X fid d Q:=pIfEF p p' h hp h' k
theorem ev (p:Prop) {p':Prop} [Decidable p] (hp:p↔p') (h':p') (k:SatE X fid d.nodeB Q) (h:d.nodeC=some (!decide p):=by kernel_rfl):SatE X fid d Q:=pIfENF p p' h hp h' k
theorem c {g:FuncId} {args:List AV} {inc:List Blk} {r:Res} (hc:X.call g args inc r) (k:SatE X fid (d.callK r) Q) (h:d.callC=some (g,args,inc):=by kernel_rfl):SatE X fid d Q:=pCall g args inc r h hc k
theorem D {F:Prop} {g:FuncId} {args:List AV} {inc:List Blk} {r:Res} {dt:DT α} (hc:X.call g args inc r∧F) (k:F→SatE X fid (dt.callK r) Q) (h:dt.callC=some (g,args,inc):=by kernel_rfl):SatE X fid dt Q:=pCall g args inc r h hc.1 (k hc.2)
theorem C (args:List AV) (inc:List Blk) {g:FuncId} {args':List AV} {inc':List Blk} {r:Res} (ha:args=args') (hi:inc=inc') (hc:X.call g args' inc' r) (k:SatE X fid (d.callK r) Q) (h:d.callC=some (g,args,inc):=by kernel_rfl):SatE X fid d Q:=pCallE g args inc h ha hi hc k
theorem q (a:α) (hq:Q a) (h:d.retV=some a:=by kernel_rfl):SatE X fid d Q:=pRet a h hq
theorem em {T:Type} (enc:T→AV) (l:List T) (i:Nat) (hi:i<l.length) (k:∀x,l[i]? =some x→SatE X fid (d.elemK (enc x)) Q) (h:d.elemC=some (l.map enc,i):=by kernel_rfl):SatE X fid d Q:=pElemM enc l _ i h rfl hi k
theorem eM {T:Type} (enc:T→AV) (l:List T) (i i':Nat) (e:i=i') (hi:i'<l.length) (k:∀x,l[i']? =some x→SatE X fid (d.elemK (enc x)) Q) (h:d.elemC=some (l.map enc,i):=by kernel_rfl):SatE X fid d Q:=pElemME enc l _ i i' h e rfl hi k
theorem eH {T:Type} (enc:T→AV) (l:List T) (i:Nat) {i':Nat} {x:T} (e:i=i') (hx:l[i']? =some x) (k:SatE X fid (d.elemK (enc x)) Q) (h:d.elemC=some (l.map enc,i):=by kernel_rfl):SatE X fid d Q:=pElemH enc l _ i i' x h e rfl hx k
theorem eh {T:Type} (enc:T→AV) {l:List T} {i:Nat} {x:T} (hx:l[i]? =some x) (k:SatE X fid (d.elemK (enc x)) Q) (h:d.elemC=some (l.map enc,i):=by kernel_rfl):SatE X fid d Q:=pElemH enc l _ i i x h rfl rfl hx k
theorem bm (bs:List UInt8) (i:Nat) (hi:i<bs.length) (k:∀x,bs[i]? =some x→SatE X fid (d.byteK x) Q) (h:d.byteC=some (bs,i):=by kernel_rfl):SatE X fid d Q:=pByteM bs i h hi k
theorem bh {bs:List UInt8} {i:Nat} {x:UInt8} (hx:bs[i]? =some x) (k:SatE X fid (d.byteK x) Q) (h:d.byteC=some (bs,i):=by kernel_rfl):SatE X fid d Q:=pByteH bs i i x h rfl hx k
theorem z {T:Type} (enc:T→AV) (l:List T) (e:Nat) (hn:∀x,(enc x).cells.length=e) (k:SatE X fid d.eszK Q) (h:d.eszC=some (l.map enc,e):=by kernel_rfl):SatE X fid d Q:=pEszM enc l _ e h rfl hn k
theorem B (xs:List AV) (bs:List UInt8) (hv:xs=bs.map (fun c=>AV.int .u8 c.toNat)) (k:SatE X fid (d.bytesK bs) Q) (h:d.bytesC=some xs:=by kernel_rfl):SatE X fid d Q:=pBytes xs bs h hv k
theorem A {d0:DT α} {s:St} (s':St) (he:s'=s) (k:SatE X fid (d0.loopAt s) Q) (h:d=d0.loopAt s':=by kernel_rfl):SatE X fid d Q:=pAgainE s' h he k
theorem a {d0:DT α} {s:St} (k:SatE X fid (d0.loopAt s) Q) (h:d=d0.loopAt s:=by kernel_rfl):SatE X fid d Q:=pAgainE s h rfl k
theorem r {T:Type} {G:T→α} {C:T→Prop} (v:T) (hc:C v) (h:d.retV=some (G v):=by kernel_rfl):SatE X fid d (fun r=>∃v,r=G v∧C v):=pRet (G v) h ⟨v,rfl,hc⟩
end SatE
end Go.Ab
namespace Go.Ab
open Go
def Stamp.may (s:Stamp):Bool:=decide (1≤s.L∧s.L≤5000∧1≤s.R∧s.R≤5∧1≤s.N∧s.N≤1000∧s.N≤s.L)
def nextStamp (l r n:Int):Stamp×Bool:=
 if 0≤l∧l<5000∧0≤n∧n<1000∧(Stamp.mk (l+1) r (n+1)).may=true then(⟨l+1,r,n+1⟩,true)else(⟨0,0,0⟩,false)
def isLetter (c:UInt8):Bool:=decide (97≤c.toNat∧c.toNat≤122)
theorem all_false {T:Type} {l:List T} {k:Nat} {x:T} {f:T→Bool} (h:l[k]? =some x) (hx:f x=false):l.all f=false:=by
 rw[List.all_eq_false]
 exact⟨x,List.mem_of_getElem? h,by simp[hx]⟩
def headAt (l:List Head) (item:Int):Stamp:=((l.find? (fun h=>decide (h.Item=item))).map Head.S).getD ⟨0,0,0⟩
def findV (l:List Version) (item:Int):Option Version:=l.find? (fun v=>decide (v.Item=item))
def headsOf (l:List Version):List Head:=l.map fun v=>⟨v.Item,v.S⟩
def attrOf (l:List Attr) (key:Int):Option Int:=(l.find? (fun a=>decide (a.Key=key))).map Attr.Val
def attrsMay:Int→List Attr→Bool
 |_,[] =>true
 |last,a::r=>decide (last<a.Key∧a.Key<4∧0≤a.Val∧a.Val≤99)&&attrsMay a.Key r
def Version.may (v:Version):Bool:=
 decide (1≤v.Item∧v.Item≤6)&&v.S.may&&decide (v.Attrs.length≤3)&&(v.Tag.all isLetter&&decide (v.Tag.length≤6))&&decide (v.Body.length≤12)&& !(v.Dead&&decide (v.Body≠ []))&&attrsMay (-1) v.Attrs
def headsMay:Int→List Head→Bool
 |_,[] =>true
 |last,h::r=>decide (last<h.Item∧1≤h.Item∧h.Item≤6)&&h.S.may&&headsMay h.Item r
def lastH (l:List Head):Nat→Int
 | 0=>0
 |k+1=>((l[k]?).map Head.Item).getD 0
def insGo:List Head→Head→List Head
 | [],h=>[h]
 |x::r,h=>if h.Item≤x.Item then h::(x::r).filter (fun y=>decide (y.Item≠h.Item))else x::insGo r h
def putHead (l:List Head) (h:Head):List Head:=if h.S.cmp (headAt l h.Item)≤0 then l else insGo l h
end Go.Ab
namespace Go.Ab
open Go
inductive Flt
 |leaf (op key lo hi:Int) (tag:List UInt8)
 |one (a:Flt)
 |two (op:Int) (a b:Flt)
 deriving DecidableEq
def Flt.op:Flt→Int
 | .leaf o _ _ _ _=>o
 | .one _=>7
 | .two o _ _=>o
def Flt.key:Flt→Int
 | .leaf _ k _ _ _=>k
 |_=>0
def Flt.lo:Flt→Int
 | .leaf _ _ l _ _=>l
 |_=>0
def Flt.hi:Flt→Int
 | .leaf _ _ _ h _=>h
 |_=>0
def Flt.tag:Flt→List UInt8
 | .leaf _ _ _ _ t=>t
 |_=> []
def Flt.args:Flt→List Flt
 | .leaf _ _ _ _ _=> []
 | .one a=>[a]
 | .two _ a b=>[a,b]
def encArgs:Flt→List AV
 | .leaf _ _ _ _ _=> []
 | .one a=>[.agg [.int .i64 a.op,.int .i64 a.key,.int .i64 a.lo,.int .i64 a.hi,.str a.tag,.tree (encArgs a)]]
 | .two _ a b=>[.agg [.int .i64 a.op,.int .i64 a.key,.int .i64 a.lo,.int .i64 a.hi,.str a.tag,.tree (encArgs a)],.agg [.int .i64 b.op,.int .i64 b.key,.int .i64 b.lo,.int .i64 b.hi,.str b.tag,.tree (encArgs b)]]
def encFlt (f:Flt):AV:= .agg [.int .i64 f.op,.int .i64 f.key,.int .i64 f.lo,.int .i64 f.hi,.str f.tag,.tree (encArgs f)]
theorem encFlt_eq (f:Flt):encFlt f= .agg [.int .i64 f.op,.int .i64 f.key,.int .i64 f.lo,.int .i64 f.hi,.str f.tag,.tree (f.args.map encFlt)]:=by cases f<;>rfl
theorem encFlt_leaf (o k l h:Int) (t:List UInt8):encFlt (.leaf o k l h t)= .agg [.int .i64 o,.int .i64 k,.int .i64 l,.int .i64 h,.str t,.tree []]:=rfl
theorem encFlt_one (a:Flt):encFlt (.one a)= .agg [.int .i64 7,.int .i64 0,.int .i64 0,.int .i64 0,.str [],.tree [encFlt a]]:=rfl
theorem encFlt_two (o:Int) (a b:Flt):encFlt (.two o a b)= .agg [.int .i64 o,.int .i64 0,.int .i64 0,.int .i64 0,.str [],.tree [encFlt a,encFlt b]]:=rfl
def Flt.ok:Flt→Prop
 | .leaf o _ _ _ _=>0≤o∧o≤4
 | .one a=>a.ok
 | .two o a b=>(o=5∨o=6)∧a.ok∧b.ok
def Flt.short:Flt→Prop
 | .leaf _ _ _ _ t=>t.length≤100000
 | .one a=>a.short
 | .two _ a b=>a.short∧b.short
def Flt.deep:Flt→Nat
 | .leaf _ _ _ _ _=>1
 | .one a=>1+a.deep
 | .two _ a b=>1+max a.deep b.deep
theorem Flt.deep_eq (f:Flt):f.deep=1+(f.args.map Flt.deep).foldl max 0:=by
 cases f<;>simp[Flt.deep,Flt.args]
def begins (s front:List UInt8):Bool:=decide (front.length≤s.length)&&decide (s.take front.length=front)
def Flt.lets (v:Version):Flt→Bool
 | .leaf o k l h t=>
  if o=1 then true else if o=2∨o=3 then(match attrOf v.Attrs k with|some n=>decide (l≤n∧n≤h)|none=>false)
  else if o=4 then begins v.Tag t else false
 | .one a=> !a.lets v
 | .two o a b=>if o=5 then a.lets v&&b.lets v else a.lets v||b.lets v
def Flt.none:Flt:= .leaf 0 0 0 0 []
structure Word where
 Kind:Int
 S:List UInt8
 N:Int
 At:Int
 deriving DecidableEq
def encWord (w:Word):AV:= .agg [.int .i64 w.Kind,.str w.S,.int .i64 w.N,.int .i64 w.At]
structure Rd where
 l:List Word
 at_:Nat
 end_:Int
 bad:Bool
 pos:Int
def encRd (r:Rd):AV:= .agg [.tree (r.l.map encWord),.int .i64 r.at_,.int .i64 r.end_,.bool r.bad,.int .i64 r.pos]
structure Br where
 B:List UInt8
 Bad:Bool
def encBr (r:Br):AV:= .agg [.tree (r.B.map encB),.bool r.Bad]
def insV:List Version→Version→List Version
 | [],v=>[v]
 |x::r,v=>if v.Item≤x.Item then v::(x::r).filter (fun y=>decide (y.Item≠v.Item))else x::insV r v
def putV (l:List Version) (v:Version):List Version:=
 match findV l v.Item with
 |some w=>if 0<w.S.cmp v.S then l else insV l v
 |none=>insV l v
def netSend (l:List Gram) (g:Gram):List Gram:=if 20≤l.length then l else l++[g]
def netComes (l:List Gram) (i:Int):List Gram×Gram×Bool:=if 0≤i∧i<l.length then(l.eraseIdx i.toNat,l.getD i.toNat ⟨0,0,[],false⟩,true)else(l,⟨0,0,[],false⟩,false)
def netTwice (l:List Gram) (i:Int):List Gram:=if h:0≤i∧i<l.length then netSend l (l[i.toNat])else l
def turnB (b:List UInt8) (to:Int):List UInt8:=b.set ((to/256)%b.length).toNat ((b.getD ((to/256)%b.length).toNat 0) ^^^ UInt8.ofNat (to%256).toNat)
def netTurned (l:List Gram) (i to:Int):List Gram×Bool:=
 if h:0≤i∧i<l.length then
  let g:=l[i.toNat]
  if g.Turned then(l,false)
  else if g.B= [] ∨to<0∨to%256=0 then(l,true)
  else(l.set i.toNat { g with B:=turnB g.B to,Turned:=true },true)
 else(l,false)
theorem encB_fun:encB=fun c=>AV.int .u8 c.toNat:=rfl
theorem edge_eq (e:Edge) (a b:Int):decide (e=⟨a,b⟩)=decide (e.A=a∧e.B=b):=by cases e;simp
def u8w (n:Int):UInt8:=UInt8.ofNat (n%256).toNat
theorem u8w_eq (n:Int):IntKind.u8.wrap n=((u8w n).toNat:Int):=by
 unfold u8w
 simp only[IntKind.wrap,IntKind.bits,IntKind.signed]
 simp
 omega
def numB (v:Nat):List UInt8:=if 128≤v then UInt8.ofNat (v%128+128)::numB (v/128)else [UInt8.ofNat v]
def sumBit (c:Nat) (bit:Nat):Nat:=if c/32768%2≠bit then(c*2%65536) ^^^ 0x1021 else c*2%65536
def sumByte (c:Nat) (x:UInt8):Nat:=(List.range 8).foldl (fun c k=>sumBit c (x.toNat/2 ^ (7-k)%2)) c
def sumB (b:List UInt8):Nat:=b.foldl sumByte 65535
theorem numB_len:∀v:Nat,v≤1000000000→(numB v).length≤5:=by
 intro v hv
 unfold numB;split
 ·unfold numB;split
  ·unfold numB;split
   ·unfold numB;split
    ·unfold numB;split
     ·omega
     ·simp
    ·simp
   ·simp
  ·simp
 ·simp
theorem numB_big {v:Nat} (h:128≤v):numB v=UInt8.ofNat (v%128+128)::numB (v/128):=by rw[numB,if_pos h]
theorem numB_small {v:Nat} (h:¬128≤v):numB v=[UInt8.ofNat v]:=by rw[numB,if_neg h]
end Go.Ab
namespace Go.Ab
open Go
abbrev Prs:=List UInt8→Flt×Int×Bool
def View.zero:View:=⟨0,0,[],[],[]⟩
def Version.zero:Version:=⟨0,⟨0,0,0⟩,false,[],[],[]⟩
def ownOf (id:Int) (l:List View):View:=if 1≤id∧id≤l.length then l.getD (id-1).toNat View.zero else View.zero
abbrev Repl.own (r:Repl):View:=ownOf r.ID r.Views
def Repl.flt (P:Prs) (r:Repl):Flt:=(P r.own.Filter).1
abbrev Repl.setOwn (r:Repl) (v:View):Repl:={ r with Views:=r.Views.set (r.ID-1).toNat v }
def outs (f:Flt) (item:Int) (l:List Version):List Version:=l.filter fun v=>decide (v.Item≠item)&& !f.lets v
def Repl.custody (r:Repl) (f:Flt) (item:Int):Nat:=(outs f item r.Held).length
abbrev Repl.hold (r:Repl) (v:Version):Repl:={ r with Held:=putV r.Held v,L:=v.S.L,N:=v.S.N }
abbrev View.wrote (x:View) (v:Version):View:={ x with Seen:=putHead x.Seen ⟨v.Item,v.S⟩,Rev:=x.Rev+1 }
def Repl.write (r:Repl) (v:Version):Repl:=(r.hold v).setOwn (r.own.wrote v)
def Repl.put (P:Prs) (r:Repl) (item:Int) (attrs:List Attr) (tag body:List UInt8):Repl×Version×Int:=
 if(Version.mk item ⟨1,1,1⟩ false attrs tag body).may then
  if(nextStamp r.L r.ID r.N).2 then
   if !(r.flt P).lets ⟨item,(nextStamp r.L r.ID r.N).1,false,attrs,tag,body⟩&&decide (r.Quota≤r.custody (r.flt P) item)then(r,Version.zero,4)
   else(r.write ⟨item,(nextStamp r.L r.ID r.N).1,false,attrs,tag,body⟩,⟨item,(nextStamp r.L r.ID r.N).1,false,attrs,tag,body⟩,0)
  else(r,Version.zero,5)
 else(r,Version.zero,1)
def Repl.delete (r:Repl) (item:Int):Repl×Version×Int:=
 match findV r.Held item with
 |none=>(r,Version.zero,3)
 |some w=>
  if w.Dead then(r,Version.zero,3)
  else if(nextStamp r.L r.ID r.N).2 then
   (r.write ⟨item,(nextStamp r.L r.ID r.N).1,true,w.Attrs,w.Tag,[]⟩,⟨item,(nextStamp r.L r.ID r.N).1,true,w.Attrs,w.Tag,[]⟩,0)
  else(r,Version.zero,5)
def incAt (l:List Int) (n:Nat):List Int:=l.set n (l.getD n 0+1)
def Repl.refilter (r:Repl) (text:List UInt8):Repl:=
 r.setOwn ⟨r.own.R,r.own.Rev+1,text,headsOf r.Held,incAt r.own.Epochs (r.ID-1).toNat⟩
def Repl.setFilter (P:Prs) (r:Repl) (text:List UInt8):Repl×Int:=
 if(P text).2.2 then
  if r.Quota<r.custody (P text).1 0 then(r,4)else(r.refilter text,0)
 else(r,2)
def View.knows (size:Nat) (mine:List Int) (v:Version) (w:View):Bool:=
 decide (w.Rev≠0)&& !decide ((headAt w.Seen v.Item).cmp v.S<0)&& !decide (w.Epochs.length<size∨mine.length<size)&&(List.range size).all fun k=> !decide (w.Epochs.getD k 0<mine.getD k 0)
def Repl.known (P:Prs) (r:Repl) (v:Version):Bool:=
 r.Views.all (fun w=>w.knows r.Size.toNat r.own.Epochs v)&&r.Views.any (fun w=>(P w.Filter).1.lets v)
def Repl.sweep (P:Prs) (r:Repl):Repl:={ r with Held:=r.Held.filter fun v=>(r.flt P).lets v|| !r.known P v }
def behind (seen:List Head) (last:Stamp) (v:Version):Bool:=decide (0<v.S.cmp (headAt seen v.Item))&&decide (0<v.S.cmp last)
def Gossip.zero:Gossip:=⟨0,0,[],[]⟩
def takeView (v x:View):View:=if x.R=v.R∧x.Rev<v.Rev then v else x
def mergeV (a b:List View):List View:=b.foldl (fun o v=>o.map (takeView v)) a
def maxes:List Int→List Int→List Int
 |a::x,b::y=>(if b>a then b else a)::maxes x y
 |x,[] =>x
 | [],_=> []
def epochsOf (l:List View) (size:Nat):List Int:=l.foldl (fun o v=>maxes o v.Epochs) (List.replicate size 0)
def newView (id size:Nat) (i:Nat):View:=if i+1=id then⟨(i:Int)+1,1,[42],[],List.replicate size 0⟩else⟨(i:Int)+1,0,[],[],[]⟩
def newRepl (id size:Nat) (quota:Int):Repl:=⟨id,size,0,0,quota,[],(List.range size).map (newView id size)⟩
def View.may (P:Prs) (size:Int) (v:View):Bool:=
 if 1≤v.R∧v.R≤size∧0≤v.Rev∧v.Rev≤1000000 then
  if v.Rev=0 then decide (v.Filter= [] ∧v.Seen= [] ∧v.Epochs= [])
  else(P v.Filter).2.2&&headsMay 0 v.Seen&&decide ((v.Epochs.length:Int)=size)&&v.Epochs.all fun e=>decide (0≤e∧e≤1000000)
 else false
def viewsMay (P:Prs) (size:Int):Int→List View→Bool
 |_,[] =>true
 |last,v::r=>v.may P size&&decide (1≤v.Rev∧last<v.R)&&viewsMay P size v.R r
def batchMay:Option Stamp→List Version→Bool
 |_,[] =>true
 |last,v::r=>v.may&&(match last with|some s=>decide (s.cmp v.S<0)|none=>true)&&batchMay (some v.S) r
def Gossip.may (P:Prs) (size:Int) (g:Gossip):Bool:=
 decide (1≤g.From∧g.From≤size∧1≤g.To∧g.To≤size∧g.From≠g.To∧g.Batch.length≤4)&&viewsMay P size 0 g.Views&&batchMay none g.Batch
def Repl.come (f:Flt) (p:Repl×View) (v:Version):Repl×View:=
 let x:={ p.1 with L:=if v.S.L>p.1.L then v.S.L else p.1.L }
 if v.S.cmp (headAt p.2.Seen v.Item)≤0 then(x,p.2)
 else if f.lets v||decide ((x.custody f v.Item:Int)<x.Quota)then({ x with Held:=putV x.Held v },{ p.2 with Seen:=putHead p.2.Seen ⟨v.Item,v.S⟩ })
 else(x,p.2)
abbrev Repl.merged (r:Repl) (g:Gossip):Repl:={ r with Views:=(mergeV r.Views g.Views).set (r.ID-1).toNat r.own }
def Repl.meOf (x:Repl) (me:View):View:=if epochsOf x.Views x.Size.toNat=me.Epochs then me else { me with Epochs:=epochsOf x.Views x.Size.toNat,Seen:=headsOf x.Held }
def Repl.takeIn (P:Prs) (r:Repl) (g:Gossip):Repl:=
 let x:=r.merged g
 let p:=g.Batch.foldl (Repl.come (x.flt P)) (x,x.meOf x.own)
 let me:=if p.2.Seen=r.own.Seen∧p.2.Epochs=r.own.Epochs then p.2 else { p.2 with Rev:=p.2.Rev+1 }
 (p.1.setOwn me).sweep P
def Repl.take (P:Prs) (r:Repl) (g:Gossip):Repl×Int:=if g.may P r.Size&&decide (g.To=r.ID)then(r.takeIn P g,0)else(r,1)
theorem own_at {id:Int} {l:List View} {x:View} (h:l[(id-1).toNat]? =some x) (h1:1≤id):ownOf id l=x:=by
 have hk:=(List.getElem?_eq_some_iff.1 h).1
 unfold ownOf
 rw[if_pos (by omega),List.getD,h];rfl
structure Version.Fit (v:Version):Prop where
 i0:1≤v.Item
 i1:v.Item≤6
 l0:1≤v.S.L
 l1:v.S.L≤5000
 r0:1≤v.S.R
 r1:v.S.R≤5
 n0:1≤v.S.N
 n1:v.S.N≤1000
 al:v.Attrs.length≤3
 tl:v.Tag.length≤6
 bl:v.Body.length≤12
 av:∀a∈v.Attrs,0≤a.Key∧a.Key≤3∧0≤a.Val∧a.Val≤99
theorem own_set {id:Int} {l:List View} (v:View) (h1:1≤id) (h2:id≤l.length):ownOf id (l.set (id-1).toNat v)=v:=
 own_at (by rw[List.getElem?_set_self (by omega)]) h1
theorem mergeV_len:∀(b a:List View),(mergeV a b).length=a.length
 | [],a=>rfl
 |v::b,a=>by
  have:=mergeV_len b (a.map (takeView v))
  simp only[mergeV,List.foldl_cons]at*
  rw[this];simp
theorem mergeV_mem:∀ {b a:List View} {w:View},w∈mergeV a b→w∈a∨w∈b
 | [],a,w,h=> .inl h
 |v::b,a,w,h=>by
  rcases mergeV_mem (b:=b) (a:=a.map (takeView v)) (by simpa only[mergeV,List.foldl_cons]using h)with h|h
  ·obtain⟨x,hx,rfl⟩:=List.mem_map.1 h
   unfold takeView
   split
   ·exact .inr (List.mem_cons_self ..)
   ·exact .inl hx
  ·exact .inr (List.mem_cons_of_mem _ h)
theorem insV_mem:∀ {l:List Version} {v w:Version},w∈insV l v→w∈l∨w=v
 | [],v,w,h=>by simp[insV]at h;exact .inr h
 |x::l,v,w,h=>by
  unfold insV at h
  split at h
  ·rcases List.mem_cons.1 h with h|h
   ·exact .inr h
   ·exact .inl (List.mem_filter.1 h).1
  ·rcases List.mem_cons.1 h with h|h
   ·exact .inl (h▸List.mem_cons_self ..)
   ·rcases insV_mem h with h|h
    ·exact .inl (List.mem_cons_of_mem _ h)
    ·exact .inr h
theorem putV_mem {l:List Version} {v w:Version} (h:w∈putV l v):w∈l∨w=v:=by
 unfold putV at h
 split at h
 ·split at h
  ·exact .inl h
  ·exact insV_mem h
 ·exact insV_mem h
theorem insV_len:∀(l:List Version) (v:Version),(insV l v).length≤l.length+1
 | [],v=>by simp[insV]
 |x::l,v=>by
  unfold insV
  split
  ·have:=List.length_filter_le (fun y:Version=>decide (y.Item≠v.Item)) (x::l)
   simp only[List.length_cons]at*;omega
  ·have:=insV_len l v
   simp only[List.length_cons];omega
theorem putV_len (l:List Version) (v:Version):(putV l v).length≤l.length+1:=by
 unfold putV
 split
 ·split
  ·omega
  ·exact insV_len l v
 ·exact insV_len l v
theorem insGo_len:∀(l:List Head) (v:Head),(insGo l v).length≤l.length+1
 | [],v=>by simp[insGo]
 |x::l,v=>by
  unfold insGo
  split
  ·have:=List.length_filter_le (fun y:Head=>decide (y.Item≠v.Item)) (x::l)
   simp only[List.length_cons]at*;omega
  ·have:=insGo_len l v
   simp only[List.length_cons];omega
theorem putHead_len (l:List Head) (v:Head):(putHead l v).length≤l.length+1:=by
 unfold putHead
 split
 ·omega
 ·exact insGo_len l v
theorem attrsMay_mem:∀ {l:List Attr} {k:Int},-1≤k→attrsMay k l=true→∀a∈l,0≤a.Key∧a.Key≤3∧0≤a.Val∧a.Val≤99
 | [],k,hk,_,a,h=>by cases h
 |x::l,k,hk,hm,a,h=>by
  simp only[attrsMay,Bool.and_eq_true,decide_eq_true_eq]at hm
  rcases List.mem_cons.1 h with rfl|h
  ·omega
  ·exact attrsMay_mem (by omega) hm.2 a h
theorem Version.may_fit {v:Version} (h:v.may=true):v.Fit:=by
 unfold Version.may Stamp.may at h
 simp only[Bool.and_eq_true,decide_eq_true_eq]at h
 obtain⟨⟨⟨⟨⟨⟨h1,h2⟩,h3⟩,h4⟩,h5⟩,h6⟩,h7⟩:=h
 exact⟨by omega,by omega,by omega,by omega,by omega,by omega,by omega,by omega,h3,h4.2,h5,attrsMay_mem (by omega) h7⟩
theorem Version.may_nums {v:Version} (h:v.may=true):1≤v.Item∧v.Item≤6∧1≤v.S.L∧v.S.L≤5000∧1≤v.S.R∧v.S.R≤5∧1≤v.S.N∧v.S.N≤1000∧v.Attrs.length≤3∧v.Tag.length≤6∧v.Body.length≤12:=
 have f:=Version.may_fit h
 ⟨f.i0,f.i1,f.l0,f.l1,f.r0,f.r1,f.n0,f.n1,f.al,f.tl,f.bl⟩
def attrsB (l:List Attr):List UInt8:=l.flatMap fun a=>numB a.Key.toNat++numB a.Val.toNat
def versB (v:Version):List UInt8:=numB v.Item.toNat++numB v.S.L.toNat++numB v.S.R.toNat++numB v.S.N.toNat++numB v.Dead.toNat++numB v.Attrs.length
def textB (s:List UInt8):List UInt8:=numB s.length++s
def putVers (b:List UInt8) (v:Version):List UInt8:=if v.may then b++versB v++attrsB v.Attrs++textB v.Tag++textB v.Body else b
theorem attrsB_len:∀ {l:List Attr},(∀a∈l,0≤a.Key∧a.Key≤3∧0≤a.Val∧a.Val≤99)→(attrsB l).length≤10*l.length
 | [],_=>by simp[attrsB]
 |a::l,h=>by
  have ha:=h a (List.mem_cons_self ..)
  have h1:=numB_len a.Key.toNat (by omega)
  have h2:=numB_len a.Val.toNat (by omega)
  have h3:=attrsB_len (l:=l) (fun b hb=>h b (List.mem_cons_of_mem _ hb))
  simp only[attrsB,List.flatMap_cons,List.length_append,List.length_cons]at*
  omega
theorem putVers_len (b:List UInt8) (v:Version):(putVers b v).length≤b.length+120:=by
 unfold putVers
 split
 ·rename_i h
  have f:=Version.may_fit h
  have hd:v.Dead.toNat≤1:=by cases v.Dead<;>simp
  have l1:=numB_len v.Item.toNat (by have:=f.i1;omega)
  have l2:=numB_len v.S.L.toNat (by have:=f.l1;omega)
  have l3:=numB_len v.S.R.toNat (by have:=f.r1;omega)
  have l4:=numB_len v.S.N.toNat (by have:=f.n1;omega)
  have l5:=numB_len v.Dead.toNat (by omega)
  have l6:=numB_len v.Attrs.length (by have:=f.al;omega)
  have l7:=attrsB_len f.av
  have l8:=numB_len v.Tag.length (by have:=f.tl;omega)
  have l9:=numB_len v.Body.length (by have:=f.bl;omega)
  have a1:=f.al;have a2:=f.tl;have a3:=f.bl
  simp only[versB,textB,List.length_append]
  omega
 ·omega
theorem attrsB_succ {l:List Attr} {k:Nat} {a:Attr} (h:l[k]? =some a):attrsB (l.take (k+1))=attrsB (l.take k)++numB a.Key.toNat++numB a.Val.toNat:=by
 unfold attrsB;rw[take_succ h,List.flatMap_append];simp
theorem headsMay_len:∀ {l:List Head} {k:Int},k≤6→headsMay k l=true→(l.length:Int)≤6-k
 | [],k,hk,_=>by simp;omega
 |x::l,k,hk,h=>by
  simp only[headsMay,Bool.and_eq_true,decide_eq_true_eq]at h
  have:=headsMay_len (k:=x.Item) (by omega) h.2
  simp only[List.length_cons];omega
theorem headsMay_mem:∀ {l:List Head} {k:Int},headsMay k l=true→∀h∈l,k<h.Item∧1≤h.Item∧h.Item≤6∧1≤h.S.L∧h.S.L≤5000∧1≤h.S.R∧h.S.R≤5∧1≤h.S.N∧h.S.N≤1000
 | [],k,_,h,hm=>by cases hm
 |x::l,k,hh,h,hm=>by
  simp only[headsMay,Bool.and_eq_true,decide_eq_true_eq]at hh
  have hs:=hh.1.2
  unfold Stamp.may at hs
  simp only[decide_eq_true_eq]at hs
  rcases List.mem_cons.1 hm with rfl|hm
  ·omega
  ·have:=headsMay_mem hh.2 h hm
   omega
structure View.Fit (P:Prs) (size:Int) (v:View):Prop where
 r0:1≤v.R
 r1:v.R≤size
 v0:0≤v.Rev
 v1:v.Rev≤1000000
 f:v.Rev≠0→(P v.Filter).2.2=true
 f0:v.Rev=0→v.Filter= [] ∧v.Seen= [] ∧v.Epochs= []
 s:headsMay 0 v.Seen=true
 el:v.Rev≠0→(v.Epochs.length:Int)=size
 e:∀e∈v.Epochs,0≤e∧e≤1000000
theorem View.may_fit {P:Prs} {size:Int} {v:View} (h:v.may P size=true):v.Fit P size:=by
 unfold View.may at h
 split at h
 ·rename_i h1
  split at h
  ·rename_i h2
   simp only[decide_eq_true_eq]at h
   exact⟨h1.1,h1.2.1,h1.2.2.1,h1.2.2.2,fun h3=>absurd h2 h3,fun _=>h,by rw[h.2.1];rfl,fun h3=>absurd h2 h3,by rw[h.2.2];intro e he;cases he⟩
  ·rename_i h2
   simp only[Bool.and_eq_true,decide_eq_true_eq,List.all_eq_true]at h
   exact⟨h1.1,h1.2.1,h1.2.2.1,h1.2.2.2,fun _=>h.1.1.1,fun h3=>absurd h3 h2,h.1.1.2,fun _=>h.1.2,h.2⟩
 ·cases h
theorem View.Fit.slen {P:Prs} {size:Int} {v:View} (h:v.Fit P size):v.Seen.length≤6:=by
 have:=headsMay_len (by omega) h.s;omega
theorem viewsMay_len {P:Prs} {size:Int} :∀ {l:List View} {k:Int},k≤size→viewsMay P size k l=true→(l.length:Int)≤size-k
 | [],k,hk,_=>by simp;omega
 |x::l,k,hk,h=>by
  simp only[viewsMay,Bool.and_eq_true,decide_eq_true_eq]at h
  have hf:=View.may_fit h.1.1
  have:=viewsMay_len (k:=x.R) hf.r1 h.2
  simp only[List.length_cons];omega
theorem viewsMay_mem {P:Prs} {size:Int} :∀ {l:List View} {k:Int},viewsMay P size k l=true→∀v∈l,v.Fit P size∧1≤v.Rev
 | [],k,_,v,hm=>by cases hm
 |x::l,k,h,v,hm=>by
  simp only[viewsMay,Bool.and_eq_true,decide_eq_true_eq]at h
  rcases List.mem_cons.1 hm with rfl|hm
  ·exact⟨View.may_fit h.1.1,h.1.2.1⟩
  ·exact viewsMay_mem h.2 v hm
theorem batchMay_mem:∀ {l:List Version} {k:Option Stamp},batchMay k l=true→∀v∈l,v.may=true
 | [],k,_,v,hm=>by cases hm
 |x::l,k,h,v,hm=>by
  simp only[batchMay,Bool.and_eq_true]at h
  rcases List.mem_cons.1 hm with rfl|hm
  ·exact h.1.1
  ·exact batchMay_mem h.2 v hm
structure Gossip.Fit (P:Prs) (size:Int) (g:Gossip):Prop where
 f0:1≤g.From
 f1:g.From≤size
 t0:1≤g.To
 t1:g.To≤size
 ne:g.From≠g.To
 bl:g.Batch.length≤4
 vl:(g.Views.length:Int)≤size
 vs:∀v∈g.Views,v.Fit P size∧1≤v.Rev
 bs:∀v∈g.Batch,v.may=true
theorem Gossip.may_fit {P:Prs} {size:Int} {g:Gossip} (h:g.may P size=true):g.Fit P size:=by
 unfold Gossip.may at h
 simp only[Bool.and_eq_true,decide_eq_true_eq]at h
 obtain⟨⟨h1,h2⟩,h3⟩:=h
 have:=viewsMay_len (by omega) h2
 exact⟨by omega,by omega,by omega,by omega,h1.2.2.2.2.1,by omega,by omega,viewsMay_mem h2,batchMay_mem h3⟩
theorem Gossip.may_nums {P:Prs} {size:Int} {g:Gossip} (h:g.may P size=true):1≤g.From∧g.From≤size∧1≤g.To∧g.To≤size∧g.From≠g.To∧g.Batch.length≤4∧(g.Views.length:Int)≤size:=
 have f:=Gossip.may_fit h
 ⟨f.f0,f.f1,f.t0,f.t1,f.ne,f.bl,f.vl⟩
theorem knows_rev {size:Nat} {mine:List Int} {v:Version} {w:View} (h:w.Rev=0):w.knows size mine v=false:=by simp[View.knows,h]
theorem knows_cmp {size:Nat} {mine:List Int} {v:Version} {w:View} (h:(headAt w.Seen v.Item).cmp v.S<0):w.knows size mine v=false:=by simp[View.knows,h]
theorem knows_len {size:Nat} {mine:List Int} {v:Version} {w:View} (h:w.Epochs.length<size∨mine.length<size):w.knows size mine v=false:=by simp[View.knows,h]
def epsIn (a b:List Int) (k:Nat):Bool:=(List.range k).all fun k=> !decide (a.getD k 0<b.getD k 0)
theorem epsIn_succ (a b:List Int) (k:Nat):epsIn a b (k+1)=(epsIn a b k&& !decide (a.getD k 0<b.getD k 0)):=by
 simp[epsIn,List.range_succ]
theorem epsIn_no {a b:List Int} {k:Nat} (h:a.getD k 0<b.getD k 0):∀n,k<n→epsIn a b n=false
 | 0,hn=>by omega
 |n+1,hn=>by
  rw[epsIn_succ]
  by_cases e:k=n
  ·subst e;simp only[h,decide_true,Bool.not_true,Bool.and_false]
  ·rw[epsIn_no h n (by omega),Bool.false_and]
theorem knows_ep {size:Nat} {mine:List Int} {v:Version} {w:View} {k:Nat} {a b:Int} (ha:w.Epochs[k]? =some a) (hb:mine[k]? =some b) (hk:k<size) (h:a<b):w.knows size mine v=false:=by
 have:=epsIn_no (a:=w.Epochs) (b:=mine) (k:=k) (by simp[List.getD,ha,hb,h]) size hk
 unfold epsIn at this
 simp only[View.knows,this,Bool.and_false]
theorem knows_yes {size:Nat} {mine:List Int} {v:Version} {w:View} (h1:¬w.Rev=0) (h2:¬(headAt w.Seen v.Item).cmp v.S<0) (h3:¬(w.Epochs.length<size∨mine.length<size)) (h4:epsIn w.Epochs mine size=true):w.knows size mine v=true:=by
 unfold epsIn at h4
 simp only[View.knows,h4,h2,h3,decide_false,Bool.not_false,Bool.and_true,decide_eq_true h1,ne_eq]
theorem outs_succ {f:Flt} {item:Int} {l:List Version} {k:Nat} {x:Version} (h:l[k]? =some x):outs f item (l.take (k+1))=outs f item (l.take k)++(if(decide (x.Item≠item)&& !f.lets x)=true then [x]else []):=by
 unfold outs;rw[take_succ h,List.filter_append];simp[List.filter_cons]
theorem outs_len (f:Flt) (item:Int) (l:List Version):(outs f item l).length≤l.length:=List.length_filter_le _ _
def turnTo {T:Type} (f:T→T) (l:List T) (j:Nat):List T:=(l.take j).map f++l.drop j
theorem turnTo_len {T:Type} (f:T→T) (l:List T) (j:Nat):(turnTo f l j).length=l.length:=by simp[turnTo];omega
theorem turnTo_at {T:Type} (f:T→T) (l:List T) (j:Nat):(turnTo f l j)[j]? =l[j]? :=by
 unfold turnTo
 by_cases h:j<l.length
 ·rw[List.getElem?_append_right (by simp;omega)];simp[Nat.min_eq_left (Nat.le_of_lt h)]
 ·rw[List.getElem?_eq_none (by simp;omega),List.getElem?_eq_none (by omega)]
theorem turnTo_all {T:Type} (f:T→T) (l:List T) (j:Nat) (h:l.length≤j):turnTo f l j=l.map f:=by
 unfold turnTo;rw[List.take_of_length_le h,List.drop_of_length_le h,List.append_nil]
theorem turnTo_keep {T:Type} {f:T→T} {l:List T} {j:Nat} {x:T} (h:l[j]? =some x) (hf:f x=x):turnTo f l (j+1)=turnTo f l j:=by
 unfold turnTo;rw[take_succ h,drop_at h];simp[hf]
theorem turnTo_set {T:Type} {f:T→T} {l:List T} {j:Nat} {x:T} (h:l[j]? =some x):(turnTo f l j).set j (f x)=turnTo f l (j+1):=by
 have hk:j<l.length:=(List.getElem?_eq_some_iff.1 h).1
 unfold turnTo;rw[take_succ h,drop_at h,List.set_append_right _ _ (by simp;omega)]
 simp[Nat.min_eq_left (Nat.le_of_lt hk)]
def maxTo (out ep:List Int) (k:Nat):List Int:=maxes (out.take k) ep++out.drop k
theorem maxes_len:∀(x y:List Int),(maxes x y).length=x.length
 | [],y=>by cases y<;>rfl
 |a::x,[] =>rfl
 |a::x,b::y=>by simp[maxes,maxes_len x y]
theorem maxTo_len (out ep:List Int) (k:Nat):(maxTo out ep k).length=out.length:=by simp[maxTo,maxes_len];omega
theorem maxTo_zero (out ep:List Int):maxTo out ep 0=out:=by
 have:maxes [] ep= [] :=by cases ep<;>rfl
 simp[maxTo,this]
theorem maxTo_at:∀(out ep:List Int) (k:Nat),(maxTo out ep k)[k]? =out[k]?
 |out,ep,k=>by
  unfold maxTo
  by_cases h:k<out.length
  ·rw[List.getElem?_append_right (by simp[maxes_len];omega)];simp[maxes_len,Nat.min_eq_left (Nat.le_of_lt h)]
  ·rw[List.getElem?_eq_none (by simp[maxes_len];omega),List.getElem?_eq_none (by omega)]
theorem maxTo_set:∀ {out ep:List Int} {k:Nat} {a b:Int},out[k]? =some a→ep[k]? =some b→(maxTo out ep k).set k (if b>a then b else a)=maxTo out ep (k+1)
 | [],ep,k,a,b,h,_=>by simp at h
 |x::out,[],k,a,b,_,h=>by simp at h
 |x::out,y::ep,0,a,b,h,h'=>by simp at h h';subst h;subst h';cases ep<;>simp[maxTo,maxes]
 |x::out,y::ep,k+1,a,b,h,h'=>by
  have:=maxTo_set (out:=out) (ep:=ep) (k:=k) (by simpa using h) (by simpa using h')
  simp only[maxTo,List.take_succ_cons,maxes,List.drop_succ_cons,List.cons_append,List.set_cons_succ,List.cons.injEq,true_and]at this ⊢
  exact this
theorem maxTo_all:∀(out ep:List Int) (k:Nat),out.length≤k∨ep.length≤k→maxTo out ep k=maxes out ep
 | [],ep,k,_=>by cases ep<;>simp[maxTo,maxes]
 |x::out,[],k,_=>by
  have:∀l:List Int,maxes l [] =l:=fun l=>by cases l<;>rfl
  simp[maxTo,this]
 |x::out,y::ep,0,h=>by simp at h
 |x::out,y::ep,k+1,h=>by
  have:=maxTo_all out ep k (by simpa using h)
  simp only[maxTo]at this
  simp[maxTo,maxes,this]
theorem mergeV_succ {a b:List View} {k:Nat} {v:View} (h:b[k]? =some v):mergeV a (b.take (k+1))=(mergeV a (b.take k)).map (takeView v):=by
 unfold mergeV;rw[take_succ h,List.foldl_append];rfl
theorem epochsOf_succ {l:List View} {n k:Nat} {v:View} (h:l[k]? =some v):epochsOf (l.take (k+1)) n=maxes (epochsOf (l.take k) n) v.Epochs:=by
 unfold epochsOf;rw[take_succ h,List.foldl_append];rfl
section
variable {f:Flt} {ID Size L N Q R Rev:Int} {H:List Version} {Vs:List View} {Fi:List UInt8} {S:List Head} {E:List Int} {v:Version}
theorem come_no (h:v.S.cmp (headAt S v.Item)≤0):Repl.come f (⟨ID,Size,L,N,Q,H,Vs⟩,⟨R,Rev,Fi,S,E⟩) v=(⟨ID,Size,if v.S.L>L then v.S.L else L,N,Q,H,Vs⟩,⟨R,Rev,Fi,S,E⟩):=by
 unfold Repl.come;exact if_pos h
theorem come_lets (h:¬v.S.cmp (headAt S v.Item)≤0) (hl:f.lets v=true):Repl.come f (⟨ID,Size,L,N,Q,H,Vs⟩,⟨R,Rev,Fi,S,E⟩) v=(⟨ID,Size,if v.S.L>L then v.S.L else L,N,Q,putV H v,Vs⟩,⟨R,Rev,Fi,putHead S ⟨v.Item,v.S⟩,E⟩):=by
 unfold Repl.come;exact(if_neg h).trans (if_pos (by rw[hl,Bool.true_or]))
theorem come_room (h:¬v.S.cmp (headAt S v.Item)≤0) (hr:((Repl.mk ID Size (if v.S.L>L then v.S.L else L) N Q H Vs).custody f v.Item:Int)<Q):Repl.come f (⟨ID,Size,L,N,Q,H,Vs⟩,⟨R,Rev,Fi,S,E⟩) v=(⟨ID,Size,if v.S.L>L then v.S.L else L,N,Q,putV H v,Vs⟩,⟨R,Rev,Fi,putHead S ⟨v.Item,v.S⟩,E⟩):=by
 unfold Repl.come;exact(if_neg h).trans (if_pos (by rw[decide_eq_true hr,Bool.or_true]))
theorem come_full (h:¬v.S.cmp (headAt S v.Item)≤0) (hl:f.lets v=false) (hr:¬((Repl.mk ID Size (if v.S.L>L then v.S.L else L) N Q H Vs).custody f v.Item:Int)<Q):Repl.come f (⟨ID,Size,L,N,Q,H,Vs⟩,⟨R,Rev,Fi,S,E⟩) v=(⟨ID,Size,if v.S.L>L then v.S.L else L,N,Q,H,Vs⟩,⟨R,Rev,Fi,S,E⟩):=by
 unfold Repl.come;exact(if_neg h).trans (if_neg (by rw[hl,decide_eq_false hr];simp))
end
theorem epochsOf_len (l:List View) (n:Nat):(epochsOf l n).length=n:=by
 unfold epochsOf
 have:∀(l:List View) (o:List Int),(l.foldl (fun o v=>maxes o v.Epochs) o).length=o.length:=by
  intro l
  induction l with
  |nil=>intro o;rfl
  |cons v l ih=>intro o;rw[List.foldl_cons,ih,maxes_len]
 rw[this];simp
theorem take_ok {P:Prs} {r:Repl} {g:Gossip} (h:g.may P r.Size=true) (h':g.To=r.ID):r.take P g=(r.takeIn P g,0):=by
 unfold Repl.take;exact if_pos (by simp[h,h'])
theorem come_succ {f:Flt} {l:List Version} {k:Nat} {v:Version} {z:Repl×View} (h:l[k]? =some v):(l.take (k+1)).foldl (Repl.come f) z=Repl.come f ((l.take k).foldl (Repl.come f) z) v:=by
 rw[take_succ h,List.foldl_append];rfl
end Go.Ab
namespace Go.Ab
open Go
end Go.Ab
namespace Go.Ab
open Go
abbrev Repl.Sm (r:Repl):Prop:=
 1≤r.ID∧r.ID≤r.Views.length∧r.Views.length≤1000∧0≤r.Size∧r.Size≤100∧r.Held.length≤100∧(∀v∈r.Held,v.Attrs.length≤100000∧v.Tag.length≤100000)∧(∀v∈r.Held,v.Body.length≤100000)∧
 (∀w∈r.Views,w.Seen.length≤100∧w.Filter.length≤100000∧w.Epochs.length≤100000)∧(∀w∈r.Views,w.Seen.length≤100000)∧0≤(ownOf r.ID r.Views).Rev∧(ownOf r.ID r.Views).Rev≤1000000000000∧
 (ownOf r.ID r.Views).Epochs.length=r.Views.length∧(∀e∈(ownOf r.ID r.Views).Epochs,0≤e∧e≤1000000000000)∧(ownOf r.ID r.Views).Seen.length≤1000∧(ownOf r.ID r.Views).Filter.length≤100000∧r.Size≤r.Views.length∧(∃w∈r.Views,0<w.Rev)
def wants:List (List UInt8):=[[42],[94,97],[94,98],[64,49,61,53],[33,94,97],[64,48,58,48,45,57],[33,42],[64,49,61,53,38,94,97],[64,49,61,53,124,94,98],[33,64,49,61,53]]
def Picks.want (p:Picks):List UInt8×Picks:=(wants.getD (p.num 10).1.toNat [],(p.num 10).2)
theorem Picks.want_l (p:Picks):p.want.2.l=p.l:=p.num_l 10
theorem Picks.want_len (p:Picks):p.want.1.length≤80:=by
 have h0:=p.num_lo 10;have h1:=p.num_hi (m:=10) (by omega)
 show(wants.getD (p.num 10).1.toNat []).length≤80
 generalize (p.num 10).1=i at*
 have:i=0∨i=1∨i=2∨i=3∨i=4∨i=5∨i=6∨i=7∨i=8∨i=9:=by omega
 rcases this with rfl|rfl|rfl|rfl|rfl|rfl|rfl|rfl|rfl|rfl<;>decide
def Mesh.zero:Mesh:=⟨0,0,[],[],[],[]⟩
abbrev Mesh.with_ (m:Mesh) (r:Repl):Mesh:={ m with Repls:=m.Repls.set (r.ID-1).toNat r }
abbrev Mesh.wrote (m:Mesh) (r:Repl) (v:Version):Mesh:={ m with Repls:=m.Repls.set (r.ID-1).toNat r,Issued:=m.Issued++[v] }
def newMesh (size:Nat) (edges:List Edge) (batch quota:Int):Mesh:=⟨size,batch,edges,(List.range size).map fun i=>newRepl (i+1) size quota,[],[]⟩
def Mesh.writeR (P:Prs) (m:Mesh) (s:Step) (r:Repl):Mesh×Int:=
 if s.Kind=3 then(if(r.setFilter P s.Text).2=0 then(m.with_ (r.setFilter P s.Text).1,0)else(m,(r.setFilter P s.Text).2))
 else if s.Kind=2 then(if(r.delete s.Item).2.2=0 then(m.wrote (r.delete s.Item).1 (r.delete s.Item).2.1,0)else(m,(r.delete s.Item).2.2))
 else(if(r.put P s.Item s.Attrs s.Tag s.Text).2.2=0 then(m.wrote (r.put P s.Item s.Attrs s.Tag s.Text).1 (r.put P s.Item s.Attrs s.Tag s.Text).2.1,0)else(m,(r.put P s.Item s.Attrs s.Tag s.Text).2.2))
def Mesh.write (P:Prs) (m:Mesh) (s:Step):Mesh×Int:=m.writeR P s (m.Repls.getD (s.R-1).toNat ⟨0,0,0,0,0,[],[]⟩)
theorem write_at {P:Prs} {m:Mesh} {s:Step} {r:Repl} (h:m.Repls[(s.R-1).toNat]? =some r):m.write P s=m.writeR P s r:=by
 unfold Mesh.write;rw[List.getD,h];rfl
theorem setFilter_id (P:Prs) (r:Repl) (t:List UInt8):(r.setFilter P t).1.ID=r.ID:=by
 unfold Repl.setFilter;split
 ·split<;>rfl
 ·rfl
theorem delete_id (r:Repl) (i:Int):(r.delete i).1.ID=r.ID:=by
 unfold Repl.delete;split
 ·rfl
 ·split
  ·rfl
  ·split<;>rfl
theorem put_id (P:Prs) (r:Repl) (i:Int) (a:List Attr) (t b:List UInt8):(r.put P i a t b).1.ID=r.ID:=by
 unfold Repl.put;split
 ·split
  ·split<;>rfl
  ·rfl
 ·rfl
theorem takeIn_id (P:Prs) (r:Repl) (g:Gossip):(r.takeIn P g).ID=r.ID:=by
 have hc:∀(l:List Version) (f:Flt) (z:Repl×View),(l.foldl (Repl.come f) z).1.ID=z.1.ID:=by
  intro l f
  induction l with
  |nil=>intro z;rfl
  |cons v l ih=>
   intro z
   rw[List.foldl_cons,ih]
   have:∀(x:Repl) (a b c:Repl×View) (p q:Prop) [Decidable p] [Decidable q],a.1.ID=x.ID→b.1.ID=x.ID→c.1.ID=x.ID→(if p then a else if q then b else c).1.ID=x.ID:=by
    intro x a b c p q _ _ h1 h2 h3
    split
    ·exact h1
    ·split
     ·exact h2
     ·exact h3
   exact this z.1 _ _ _ _ _ rfl rfl rfl
 exact hc g.Batch ((r.merged g).flt P) (r.merged g,(r.merged g).meOf (r.merged g).own)
theorem take_id (P:Prs) (r:Repl) (g:Gossip):(r.take P g).1.ID=r.ID:=by
 unfold Repl.take;split
 ·exact takeIn_id P r g
 ·rfl
end Go.Ab
namespace Go.Ab
open Go
theorem numB_inj:∀(a b:Nat) (x y:List UInt8),numB a++x=numB b++y→a=b∧x=y:=by
 intro a
 induction a using Nat.strongRecOn with
 |ind a ih=>
  intro b x y h
  by_cases ha:128≤a
  ·rw[numB_big ha]at h
   by_cases hb:128≤b
   ·rw[numB_big hb]at h
    simp only[List.cons_append,List.cons.injEq]at h
    obtain⟨h1,h2⟩:=h
    have h3:=congrArg UInt8.toNat h1
    simp only[UInt8.toNat_ofNat']at h3
    obtain⟨h4,h5⟩:=ih (a/128) (by omega) (b/128) x y h2
    exact⟨by omega,h5⟩
   ·rw[numB_small hb]at h
    simp only[List.cons_append,List.cons.injEq,List.nil_append]at h
    have h3:=congrArg UInt8.toNat h.1
    simp only[UInt8.toNat_ofNat']at h3
    omega
  ·rw[numB_small ha]at h
   by_cases hb:128≤b
   ·rw[numB_big hb]at h
    simp only[List.cons_append,List.cons.injEq,List.nil_append]at h
    have h3:=congrArg UInt8.toNat h.1
    simp only[UInt8.toNat_ofNat']at h3
    omega
   ·rw[numB_small hb]at h
    simp only[List.cons_append,List.cons.injEq,List.nil_append]at h
    have h3:=congrArg UInt8.toNat h.1
    simp only[UInt8.toNat_ofNat']at h3
    exact⟨by omega,h.2⟩
theorem textB_inj {s t x y:List UInt8} (h:textB s++x=textB t++y):s=t∧x=y:=by
 unfold textB at h
 rw[List.append_assoc,List.append_assoc]at h
 obtain⟨h1,h2⟩:=numB_inj _ _ _ _ h
 exact List.append_inj h2 h1
theorem attrsB_inj:∀ {l k:List Attr} {x y:List UInt8},l.length=k.length→(∀a∈l,0≤a.Key∧0≤a.Val)→(∀a∈k,0≤a.Key∧0≤a.Val)→attrsB l++x=attrsB k++y→l=k∧x=y
 | [],[],x,y,_,_,_,h=>⟨rfl,by simpa[attrsB]using h⟩
 | [],b::k,_,_,h,_,_,_=>by cases h
 |a::l,[],_,_,h,_,_,_=>by cases h
 |a::l,b::k,x,y,hl,h1,h2,h=>by
  simp only[attrsB,List.flatMap_cons,List.append_assoc]at h
  obtain⟨e1,h⟩:=numB_inj _ _ _ _ h
  obtain⟨e2,h⟩:=numB_inj _ _ _ _ h
  obtain⟨e3,e4⟩:=attrsB_inj (l:=l) (k:=k) (by simpa using hl) (fun c hc=>h1 c (List.mem_cons_of_mem _ hc)) (fun c hc=>h2 c (List.mem_cons_of_mem _ hc)) h
  have a1:=h1 a (List.mem_cons_self ..);have b1:=h2 b (List.mem_cons_self ..)
  exact⟨by rw[e3];congr 1;exact Attr.ext (by omega) (by omega),e4⟩
theorem vers_inj {v w:Version} (hv:v.may=true) (hw:w.may=true) {x y:List UInt8} (h:putVers [] v++x=putVers [] w++y):v=w∧x=y:=by
 have f:=Version.may_fit hv;have g:=Version.may_fit hw
 simp only[putVers,hv,hw,if_true,versB,List.nil_append,List.append_assoc]at h
 obtain⟨e1,h⟩:=numB_inj _ _ _ _ h
 obtain⟨e2,h⟩:=numB_inj _ _ _ _ h
 obtain⟨e3,h⟩:=numB_inj _ _ _ _ h
 obtain⟨e4,h⟩:=numB_inj _ _ _ _ h
 obtain⟨e5,h⟩:=numB_inj _ _ _ _ h
 obtain⟨e6,h⟩:=numB_inj _ _ _ _ h
 obtain⟨e7,h⟩:=attrsB_inj e6 (fun a ha=>⟨(f.av a ha).1,(f.av a ha).2.2.1⟩) (fun a ha=>⟨(g.av a ha).1,(g.av a ha).2.2.1⟩) h
 obtain⟨e8,h⟩:=textB_inj h
 obtain⟨e9,h⟩:=textB_inj h
 refine⟨Version.ext ?_ (Stamp.ext ?_ ?_ ?_) ?_ e7 e8 e9,h⟩
 ·have:=f.i0;have:=g.i0;omega
 ·have:=f.l0;have:=g.l0;omega
 ·have:=f.r0;have:=g.r0;omega
 ·have:=f.n0;have:=g.n0;omega
 ·cases hd:v.Dead<;>cases he:w.Dead<;>simp_all
theorem attrsMay_app:∀ {l:List Attr} {last:Int} {a:Attr},attrsMay last l=true→(∀b∈l,b.Key<a.Key)→last<a.Key→a.Key<4→0≤a.Val→a.Val≤99→attrsMay last (l++[a])=true
 | [],last,a,_,_,h1,h2,h3,h4=>by simp[attrsMay];omega
 |b::l,last,a,h,hb,h1,h2,h3,h4=>by
  simp only[attrsMay,Bool.and_eq_true,List.cons_append]at h ⊢
  exact⟨h.1,attrsMay_app h.2 (fun c hc=>hb c (List.mem_cons_of_mem _ hc)) (hb b (List.mem_cons_self ..)) h2 h3 h4⟩
theorem attrVals_in (i:Nat):0≤attrVals.getD i 0∧attrVals.getD i 0≤99:=by
 unfold attrVals
 match i with
 | 0 | 1 | 2 | 3 | 4 | 5=>decide
 |n+6=>simp
theorem Picks.attrsAt_may:∀(f:Nat) (p:Picks) (k:Nat) (l:List Attr),attrsMay (-1) l=true→(∀b∈l,b.Key<k)→attrsMay (-1) (p.attrsAt f k l).1=true
 | 0,p,k,l,h,_=>h
 |f+1,p,k,l,h,hb=>by
  simp only[Picks.attrsAt]
  split
  ·rename_i hc
   split
   ·refine Picks.attrsAt_may f _ _ _ (attrsMay_app h (fun b hm=>hb b hm) (by simp only;omega) (by simp only;omega) (attrVals_in _).1 (attrVals_in _).2) fun b hm=> ?_
    rcases List.mem_append.1 hm with hm|hm
    ·have:=hb b hm;omega
    ·rw[List.mem_singleton.1 hm];simp only;omega
   ·exact Picks.attrsAt_may f _ _ _ h fun b hm=>by have:=hb b hm;omega
  ·exact h
theorem Picks.attrs_may (p:Picks):attrsMay (-1) p.attrs.1=true:=Picks.attrsAt_may _ _ _ _ rfl (fun b hb=>by cases hb)
theorem Picks.tag_mem (p:Picks):p.tag.1∈tags:=by
 have h0:=p.num_lo 6;have h1:=p.num_hi (m:=6) (by omega)
 show tags.getD (p.num 6).1.toNat [] ∈tags
 have:(p.num 6).1.toNat<tags.length:=by show _<6;omega
 rw[List.getD_eq_getElem?_getD,List.getElem?_eq_getElem this]
 exact List.getElem_mem this
theorem tags_ok:∀t∈tags,t.all isLetter=true∧t.length≤6:=by decide
theorem Picks.version_parts (p:Picks):attrsMay (-1) p.version.1.Attrs=true∧p.version.1.Tag∈tags∧(p.version.1.Dead=true→p.version.1.Body= []):=by
 simp only[Picks.version]
 generalize p.num 6=i
 generalize i.2.stamp=s
 have ha:=s.2.attrs_may
 generalize s.2.attrs=a at*
 have ht:=a.2.tag_mem
 generalize a.2.tag=t at*
 split
 ·exact⟨ha,ht,fun _=>rfl⟩
 ·exact⟨ha,ht,fun h=>by cases h⟩
theorem Picks.version_may (p:Picks):p.version.1.may=true:=by
 have h:=p.version_like
 obtain⟨h1,h2,h3⟩:=p.version_parts
 obtain⟨t1,t2⟩:=tags_ok _ h2
 have hi:=h.i0;have hi1:=h.i1;have hl:=h.l0;have hl1:=h.l1;have hr:=h.r0;have hr1:=h.r1;have hn:=h.n0;have hn1:=h.n1;have ha:=h.attrs;have hb:=h.body
 simp only[Version.may,Stamp.may,h1,t1,Bool.and_eq_true,decide_eq_true_eq,Bool.not_eq_true',Bool.and_true,true_and]
 refine⟨⟨⟨⟨⟨by omega,by omega⟩,ha⟩,t2⟩,hb⟩, ?_⟩
 cases hd:p.version.1.Dead with
 |false=>rfl
 |true=>simp[h3 hd]
end Go.Ab
namespace Go.Ab
open Go
theorem sumBit_lt (c b:Nat):sumBit c b<65536:=by
 unfold sumBit
 split
 ·exact Nat.xor_lt_two_pow (n:=16) (Nat.mod_lt _ (by decide)) (by decide)
 ·exact Nat.mod_lt _ (by decide)
theorem xor_par (a b:Nat):(a ^^^ b)%2=(a%2+b%2)%2:=by
 have h:=Nat.xor_mod_two_pow (a:=a) (b:=b) (n:=1)
 rw[Nat.pow_one]at h
 rw[h]
 have h1:a%2=0∨a%2=1:=by omega
 have h2:b%2=0∨b%2=1:=by omega
 rcases h1 with h1|h1<;>rcases h2 with h2|h2<;>rw[h1,h2]<;>rfl
theorem xor_lc (a b c:Nat):a ^^^ (b ^^^ c)=b ^^^ (a ^^^ c):=by rw[←Nat.xor_assoc,Nat.xor_comm a b,Nat.xor_assoc]
theorem xor_div (a b n:Nat):(a ^^^ b) /2 ^ n=(a/2 ^ n) ^^^ (b/2 ^ n):=by
 have:=Nat.shiftRight_xor_distrib (a:=a) (b:=b) (i:=n)
 simpa[Nat.shiftRight_eq_div_pow]using this
theorem xor_two (a b:Nat):(a ^^^ b)*2%65536=(a*2%65536) ^^^ (b*2%65536):=by
 have h1:=Nat.shiftLeft_xor_distrib (a:=a) (b:=b) (i:=1)
 have h2:=Nat.xor_mod_two_pow (a:=a*2) (b:=b*2) (n:=16)
 simp only[Nat.shiftLeft_eq,Nat.pow_one]at h1
 rw[h1];exact h2
theorem sumBit_xor (c c' b b':Nat) (hb:b<2) (hb':b'<2):sumBit c b ^^^ sumBit c' b'=sumBit (c ^^^ c') ((b+b')%2):=by
 have ht:(c ^^^ c') /32768%2=(c/32768%2+c'/32768%2)%2:=by
  have:=xor_div c c' 15
  rw[show(2:Nat) ^ 15=32768 by decide]at this
  rw[this,xor_par]
 have h1:c/32768%2<2:=Nat.mod_lt _ (by decide)
 have h2:c'/32768%2<2:=Nat.mod_lt _ (by decide)
 unfold sumBit
 rw[xor_two,ht]
 generalize c/32768%2=t at*
 generalize c'/32768%2=t' at*
 generalize c*2%65536=m at*
 generalize c'*2%65536=m' at*
 have e1:t=0∨t=1:=by omega
 have e2:t'=0∨t'=1:=by omega
 have e3:b=0∨b=1:=by omega
 have e4:b'=0∨b'=1:=by omega
 rcases e1 with rfl|rfl<;>rcases e2 with rfl|rfl<;>rcases e3 with rfl|rfl<;>rcases e4 with rfl|rfl<;>simp[Nat.xor_assoc,Nat.xor_comm,xor_lc]
def sumBits (c:Nat):List Nat→Nat
 | [] =>c
 |b::l=>sumBits (sumBit c b) l
def bitsOf (x:UInt8):List Nat:=[x.toNat/128%2,x.toNat/64%2,x.toNat/32%2,x.toNat/16%2,x.toNat/8%2,x.toNat/4%2,x.toNat/2%2,x.toNat%2]
theorem sumByte_bits (c:Nat) (x:UInt8):sumByte c x=sumBits c (bitsOf x):=by
 simp[sumByte,bitsOf,sumBits,List.range,List.range.loop]
theorem sumBits_xor:∀(l l':List Nat) (c c':Nat),l.length=l'.length→(∀b∈l,b<2)→(∀b∈l',b<2)→sumBits c l ^^^ sumBits c' l'=sumBits (c ^^^ c') (List.zipWith (fun b b'=>(b+b')%2) l l')
 | [],[],c,c',_,_,_=>rfl
 |b::l,b'::l',c,c',h,h1,h2=>by
  simp only[sumBits,List.zipWith]
  rw[←sumBit_xor c c' b b' (h1 _ (List.mem_cons_self ..)) (h2 _ (List.mem_cons_self ..))]
  exact sumBits_xor l l' _ _ (by simpa using h) (fun x hx=>h1 x (List.mem_cons_of_mem _ hx)) (fun x hx=>h2 x (List.mem_cons_of_mem _ hx))
theorem bits_lt (x:UInt8):∀b∈bitsOf x,b<2:=by
 intro b hb
 simp only[bitsOf,List.mem_cons,List.not_mem_nil,or_false]at hb
 omega
theorem bits_xor (x y:UInt8):List.zipWith (fun b b'=>(b+b')%2) (bitsOf x) (bitsOf y)=bitsOf (x ^^^ y):=by
 have h:∀n,(x.toNat ^^^ y.toNat) /2 ^ n%2=(x.toNat/2 ^ n%2+y.toNat/2 ^ n%2)%2:=fun n=>by rw[xor_div,xor_par]
 have h7:=h 7;have h6:=h 6;have h5:=h 5;have h4:=h 4;have h3:=h 3;have h2:=h 2;have h1:=h 1
 simp only[show(2:Nat) ^ 7=128 by decide,show(2:Nat) ^ 6=64 by decide,show(2:Nat) ^ 5=32 by decide,show(2:Nat) ^ 4=16 by decide,show(2:Nat) ^ 3=8 by decide,show(2:Nat) ^ 2=4 by decide,Nat.pow_one]at h1 h2 h3 h4 h5 h6 h7
 simp only[bitsOf,List.zipWith,UInt8.toNat_xor,h1,h2,h3,h4,h5,h6,h7,xor_par]
theorem sumByte_xor (c c':Nat) (x y:UInt8):sumByte c x ^^^ sumByte c' y=sumByte (c ^^^ c') (x ^^^ y):=by
 rw[sumByte_bits,sumByte_bits,sumByte_bits,sumBits_xor _ _ _ _ (by rfl) (bits_lt x) (bits_lt y),bits_xor]
theorem sumByte_zero:∀n:Fin 256,n.val≠0→sumBits 0 (bitsOf (UInt8.ofNat n.val))≠0:=by decide+kernel
theorem xor_eq_zero {a b:Nat} (h:a ^^^ b=0):a=b:=by
 have:(a ^^^ b) ^^^ b=a:=by rw[Nat.xor_assoc,Nat.xor_self,Nat.xor_zero]
 rw[h,Nat.zero_xor]at this;exact this.symm
theorem sumByte_ne (c:Nat) {x y:UInt8} (h:x≠y):sumByte c x≠sumByte c y:=by
 intro e
 have h1:=sumByte_xor c c x y
 rw[e,Nat.xor_self,Nat.xor_self,sumByte_bits]at h1
 have h2:=sumByte_zero ⟨(x ^^^ y).toNat,UInt8.toNat_lt _⟩ (fun h0=>by
  have h0:(x ^^^ y).toNat=0:=h0
  rw[UInt8.toNat_xor]at h0
  exact h (UInt8.toNat_inj.1 (xor_eq_zero h0)))
 simp only[UInt8.ofNat_toNat]at h2
 exact h2 h1.symm
theorem sumBit_inj {c c' b:Nat} (hb:b<2) (hc:c<65536) (hc':c'<65536) (h:sumBit c b=sumBit c' b):c=c':=by
 unfold sumBit at h
 have p:=fun m:Nat=>xor_par m 0x1021
 have q:∀m m':Nat,m ^^^ 0x1021=m' ^^^ 0x1021→m=m':=fun m m' e=>by
  have:=congrArg (· ^^^ 0x1021) e
  simpa[Nat.xor_assoc]using this
 split at h<;>split at h
 ·have:=q _ _ h;omega
 ·have:=p (c*2%65536);rw[h]at this;omega
 ·have:=p (c'*2%65536);rw[←h]at this;omega
 ·omega
theorem sumBits_inj:∀(l:List Nat) {c c':Nat},(∀b∈l,b<2)→c<65536→c'<65536→sumBits c l=sumBits c' l→c=c'
 | [],_,_,_,_,_,h=>h
 |_::l,_,_,hb,h1,h2,h=>sumBit_inj (hb _ (List.mem_cons_self ..)) h1 h2 (sumBits_inj l (fun x hx=>hb x (List.mem_cons_of_mem _ hx)) (sumBit_lt _ _) (sumBit_lt _ _) h)
theorem sumByte_inj {c c':Nat} {x:UInt8} (hc:c<65536) (hc':c'<65536) (h:sumByte c x=sumByte c' x):c=c':=by
 rw[sumByte_bits,sumByte_bits]at h;exact sumBits_inj _ (bits_lt x) hc hc' h
theorem sumByte_lt (c:Nat) (x:UInt8):sumByte c x<65536:=by
 rw[sumByte_bits];simp only[bitsOf,sumBits];exact sumBit_lt _ _
theorem foldSum_inj:∀(l:List UInt8) {c c':Nat},c<65536→c'<65536→l.foldl sumByte c=l.foldl sumByte c'→c=c'
 | [],_,_,_,_,h=>h
 |_::l,_,_,h1,h2,h=>sumByte_inj h1 h2 (foldSum_inj l (sumByte_lt _ _) (sumByte_lt _ _) h)
theorem foldSum_lt:∀(l:List UInt8) {c:Nat},c<65536→l.foldl sumByte c<65536
 | [],_,h=>h
 |_::l,_,_=>foldSum_lt l (sumByte_lt _ _)
theorem sumB_lt (l:List UInt8):sumB l<65536:=foldSum_lt l (by decide)
theorem sumB_set {l:List UInt8} {i:Nat} {y:UInt8} (hi:i<l.length) (h:l[i]≠y):sumB (l.set i y)≠sumB l:=by
 unfold sumB
 have e:l=l.take i++l[i]::l.drop (i+1):=by simp
 have e2:l.set i y=l.take i++y::l.drop (i+1):=by rw[List.set_eq_take_append_cons_drop,if_pos hi]
 rw[e2]
 conv=>rhs;rw[e]
 rw[List.foldl_append,List.foldl_append,List.foldl_cons,List.foldl_cons]
 intro h'
 have:=foldSum_inj _ (sumByte_lt _ _) (sumByte_lt _ _) h'
 exact sumByte_ne _ (fun e=>h e.symm) this
theorem wU32 {n:Nat} (h:n<4294967296):IntKind.u32.wrap (n:Int)=n:=by
 simp only[IntKind.wrap,IntKind.bits,IntKind.signed]
 simp
 omega
theorem wU16 {n:Nat} (h:n<65536):IntKind.u16.wrap (n:Int)=n:=by
 simp only[IntKind.wrap,IntKind.bits,IntKind.signed]
 simp
 omega
theorem and_u32 (m k:Nat) (hm:m<4294967296) (hk:k≤32):((BitVec.ofInt 32 (m:Int)) &&& (BitVec.ofInt 32 ((2 ^ k-1:Nat):Int))).toNat=m%2 ^ k:=by
 have h2:2 ^ k≤2 ^ 32:=Nat.pow_le_pow_right (by decide) hk
 have h3:0<2 ^ k:=Nat.pow_pos (by decide)
 rw[BitVec.toNat_and,BitVec.ofInt_natCast,BitVec.ofInt_natCast,BitVec.toNat_ofNat,BitVec.toNat_ofNat,Nat.mod_eq_of_lt (by omega),Nat.mod_eq_of_lt (by omega),Nat.and_two_pow_sub_one_eq_mod]
theorem top_u32 (m:Nat) (hm:m<65536):IntKind.u32.wrap (((BitVec.ofInt 32 (Int.fdiv (m:Int) (2 ^ 15)) &&& BitVec.ofInt 32 1).toNat:Nat):Int)=((m/32768%2:Nat):Int):=by
 have e:Int.fdiv (m:Int) (2 ^ 15)=((m/32768:Nat):Int):=by
  rw[Int.fdiv_eq_ediv_of_nonneg _ (by decide)]
  exact(Int.natCast_ediv m 32768).symm
 have:=and_u32 (m/32768) 1 (by omega) (by decide)
 rw[e]
 rw[show((2 ^ 1-1:Nat):Int)=1 by decide]at this
 rw[this,wU32 (by omega)]
theorem bit_u32 (x:UInt8) (n:Nat) (hn:n≤7):IntKind.u32.wrap (((BitVec.ofInt 32 (IntKind.u32.wrap (Int.fdiv (x.toNat:Int) (2 ^ (Min.min n 8)))) &&& BitVec.ofInt 32 1).toNat:Nat):Int)=((x.toNat/2 ^ n%2:Nat):Int):=by
 have hx:=UInt8.toNat_lt x
 have hp:0<2 ^ n:=Nat.pow_pos (by decide)
 have hd:x.toNat/2 ^ n≤x.toNat:=Nat.div_le_self _ _
 have e:Int.fdiv (x.toNat:Int) (2 ^ (Min.min n 8))=((x.toNat/2 ^ n:Nat):Int):=by
  rw[Nat.min_eq_left (by omega),Int.fdiv_eq_ediv_of_nonneg _ (by exact_mod_cast Nat.zero_le _)]
  rw[Int.natCast_ediv];rfl
 have:=and_u32 (x.toNat/2 ^ n) 1 (by omega) (by decide)
 rw[e,wU32 (n:=x.toNat/2 ^ n) (by omega)]
 rw[show((2 ^ 1-1:Nat):Int)=1 by decide]at this
 rw[this,wU32 (by omega)]
theorem shl_u32 (m:Nat) (hm:m<65536):IntKind.u32.wrap (((BitVec.ofInt 32 (IntKind.u32.wrap ((m:Int)*2 ^ 1)) &&& BitVec.ofInt 32 65535).toNat:Nat):Int)=((m*2%65536:Nat):Int):=by
 have e:(m:Int)*2 ^ 1=((m*2:Nat):Int):=by simp
 have:=and_u32 (m*2) 16 (by omega) (by decide)
 rw[e,wU32 (n:=m*2) (by omega)]
 rw[show((2 ^ 16-1:Nat):Int)=65535 by decide]at this
 rw[this,wU32 (by omega)]
theorem xor_u32 (m:Nat) (hm:m<65536):IntKind.u32.wrap (((BitVec.ofInt 32 (m:Int) ^^^ BitVec.ofInt 32 4129).toNat:Nat):Int)=((m ^^^ 4129:Nat):Int):=by
 have h1:m ^^^ 4129<65536:=Nat.xor_lt_two_pow (n:=16) hm (by decide)
 rw[BitVec.toNat_xor,BitVec.ofInt_natCast,show BitVec.ofInt 32 4129=BitVec.ofNat 32 4129 from rfl,BitVec.toNat_ofNat,BitVec.toNat_ofNat,Nat.mod_eq_of_lt (by omega),Nat.mod_eq_of_lt (by decide),wU32 (by omega)]
def byteTo (c:Nat) (x:UInt8) (n:Nat):Nat:=(List.range n).foldl (fun c k=>sumBit c (x.toNat/2 ^ (7-k)%2)) c
theorem byteTo_succ (c:Nat) (x:UInt8) (n:Nat):byteTo c x (n+1)=sumBit (byteTo c x n) (x.toNat/2 ^ (7-n)%2):=by
 unfold byteTo;rw[List.range_succ,List.foldl_append];rfl
theorem byteTo_lt (c:Nat) (hc:c<65536) (x:UInt8):∀n,byteTo c x n<65536
 | 0=>hc
 |n+1=>by rw[byteTo_succ];exact sumBit_lt _ _
abbrev topI (d:Int):Int:=IntKind.u32.wrap (((BitVec.ofInt 32 (Int.fdiv d (2 ^ 15)) &&& BitVec.ofInt 32 1).toNat:Nat):Int)
abbrev bitI (x:UInt8) (j:Int):Int:=IntKind.u32.wrap (((BitVec.ofInt 32 (IntKind.u32.wrap (Int.fdiv (x.toNat:Int) (2 ^ (Min.min j.toNat 8)))) &&& BitVec.ofInt 32 1).toNat:Nat):Int)
abbrev shlI (d:Int):Int:=IntKind.u32.wrap (((BitVec.ofInt 32 (IntKind.u32.wrap (d*2 ^ 1)) &&& BitVec.ofInt 32 65535).toNat:Nat):Int)
theorem sum_eq {c:Nat} {x:UInt8} {j d:Int} (hc:c<65536) (h0:0≤j) (h7:j≤7) (hd:d=(byteTo c x (7-j).toNat:Nat)) (h:topI d=bitI x j):shlI d=(byteTo c x (7-(j-1)).toNat:Nat):=by
 have hl:=byteTo_lt c hc x (7-j).toNat
 rw[show(7-(j-1)).toNat=(7-j).toNat+1 by omega,byteTo_succ]
 subst hd
 generalize byteTo c x (7-j).toNat=m at*
 have h1:=top_u32 m hl
 have h2:=bit_u32 x j.toNat (by omega)
 have h3:=shl_u32 m hl
 unfold topI bitI at h
 rw[h1,h2]at h
 unfold shlI
 rw[h3,show 7-(7-j).toNat=j.toNat by omega]
 unfold sumBit
 rw[if_neg (by omega)]
theorem sum_ne {c:Nat} {x:UInt8} {j d:Int} (hc:c<65536) (h0:0≤j) (h7:j≤7) (hd:d=(byteTo c x (7-j).toNat:Nat)) (h:¬topI d=bitI x j):IntKind.u32.wrap (((BitVec.ofInt 32 (shlI d) ^^^ BitVec.ofInt 32 4129).toNat:Nat):Int)=(byteTo c x (7-(j-1)).toNat:Nat):=by
 have hl:=byteTo_lt c hc x (7-j).toNat
 rw[show(7-(j-1)).toNat=(7-j).toNat+1 by omega,byteTo_succ]
 subst hd
 generalize byteTo c x (7-j).toNat=m at*
 have h1:=top_u32 m hl
 have h2:=bit_u32 x j.toNat (by omega)
 have h3:=shl_u32 m hl
 unfold topI bitI at h
 rw[h1,h2]at h
 unfold shlI
 rw[h3,xor_u32 _ (Nat.mod_lt _ (by decide)),show 7-(7-j).toNat=j.toNat by omega]
 unfold sumBit
 rw[if_pos (by omega)]
end Go.Ab
namespace Go.Ab
open Go
def headB (h:Head):List UInt8:=numB h.Item.toNat++(numB h.S.L.toNat++(numB h.S.R.toNat++numB h.S.N.toNat))
def headsB (l:List Head):List UInt8:=l.flatMap headB
def epsB (l:List Int):List UInt8:=l.flatMap fun n=>numB n.toNat
def viewB (v:View):List UInt8:=numB v.R.toNat++(numB v.Rev.toNat++(textB v.Filter++(numB v.Seen.length++(headsB v.Seen++epsB v.Epochs))))
def viewsB (l:List View):List UInt8:=l.flatMap viewB
def versLB (l:List Version):List UInt8:=l.flatMap (putVers [])
def gossBody (g:Gossip):List UInt8:=numB g.From.toNat++(numB g.To.toNat++(numB g.Views.length++(viewsB g.Views++(numB g.Batch.length++versLB g.Batch))))
def sumBytes (s:Nat):List UInt8:=[UInt8.ofNat (s/256),UInt8.ofNat (s%256)]
def gossB (g:Gossip):List UInt8:=gossBody g++sumBytes (sumB (gossBody g))
theorem flat_succ {T:Type} (f:T→List UInt8) {l:List T} {k:Nat} {x:T} (h:l[k]? =some x):(l.take (k+1)).flatMap f=(l.take k).flatMap f++f x:=by
 rw[take_succ h,List.flatMap_append];simp
theorem headsB_succ {l:List Head} {k:Nat} {x:Head} (h:l[k]? =some x):headsB (l.take (k+1))=headsB (l.take k)++headB x:=flat_succ _ h
theorem epsB_succ {l:List Int} {k:Nat} {x:Int} (h:l[k]? =some x):epsB (l.take (k+1))=epsB (l.take k)++numB x.toNat:=flat_succ _ h
theorem viewsB_succ {l:List View} {k:Nat} {x:View} (h:l[k]? =some x):viewsB (l.take (k+1))=viewsB (l.take k)++viewB x:=flat_succ _ h
theorem versLB_succ {l:List Version} {k:Nat} {x:Version} (h:l[k]? =some x):versLB (l.take (k+1))=versLB (l.take k)++putVers [] x:=flat_succ _ h
theorem putVers_app (b:List UInt8) (v:Version):putVers b v=b++putVers [] v:=by
 unfold putVers;split<;>simp
theorem headB_inj {a b:Head} (ha:0≤a.Item∧0≤a.S.L∧0≤a.S.R∧0≤a.S.N) (hb:0≤b.Item∧0≤b.S.L∧0≤b.S.R∧0≤b.S.N) {x y:List UInt8} (h:headB a++x=headB b++y):a=b∧x=y:=by
 obtain⟨ai,al,ar,an⟩:=a
 unfold headB at h
 simp only[List.append_assoc]at h
 obtain⟨h1,h⟩:=numB_inj _ _ _ _ h
 obtain⟨h2,h⟩:=numB_inj _ _ _ _ h
 obtain⟨h3,h⟩:=numB_inj _ _ _ _ h
 obtain⟨h4,h⟩:=numB_inj _ _ _ _ h
 refine⟨?_,h⟩
 obtain⟨bi,bl,br,bn⟩:=b
 simp only at ha hb h1 h2 h3 h4
 congr 1
 ·omega
 ·congr 1<;>omega
theorem flat_inj {T:Type} (f:T→List UInt8) (C:T→Prop) (hf:∀a b x y,C a→C b→f a++x=f b++y→a=b∧x=y):∀(l k:List T) (x y:List UInt8),l.length=k.length→(∀a∈l,C a)→(∀a∈k,C a)→l.flatMap f++x=k.flatMap f++y→l=k∧x=y
 | [],[],_,_,_,_,_,h=>⟨rfl,by simpa using h⟩
 |a::l,b::k,x,y,hl,h1,h2,h=>by
  simp only[List.flatMap_cons,List.append_assoc]at h
  obtain⟨e1,h3⟩:=hf a b _ _ (h1 _ (List.mem_cons_self ..)) (h2 _ (List.mem_cons_self ..)) h
  obtain⟨e2,h4⟩:=flat_inj f C hf l k x y (by simpa using hl) (fun z hz=>h1 z (List.mem_cons_of_mem _ hz)) (fun z hz=>h2 z (List.mem_cons_of_mem _ hz)) h3
  exact⟨by rw[e1,e2],h4⟩
structure View.Put (n:Nat) (w:View):Prop where
 r:0≤w.R
 v:0≤w.Rev
 s:∀h∈w.Seen,0≤h.Item∧0≤h.S.L∧0≤h.S.R∧0≤h.S.N
 e:∀x∈w.Epochs,0≤x
 l:w.Epochs.length=n
theorem viewB_inj {n:Nat} (a b:View) (x y:List UInt8) (ha:a.Put n) (hb:b.Put n) (h:viewB a++x=viewB b++y):a=b∧x=y:=by
 unfold viewB at h
 simp only[List.append_assoc]at h
 obtain⟨h1,h⟩:=numB_inj _ _ _ _ h
 obtain⟨h2,h⟩:=numB_inj _ _ _ _ h
 obtain⟨h3,h⟩:=textB_inj h
 obtain⟨h4,h⟩:=numB_inj _ _ _ _ h
 obtain⟨h5,h⟩:=flat_inj headB (fun h=>0≤h.Item∧0≤h.S.L∧0≤h.S.R∧0≤h.S.N) (fun a b x y ha hb h=>headB_inj ha hb h) _ _ _ _ h4 ha.s hb.s h
 obtain⟨h6,h⟩:=flat_inj (fun n:Int=>numB n.toNat) (fun n=>0≤n) (fun a b x y ha hb h=>by
  obtain⟨h1,h2⟩:=numB_inj _ _ _ _ h
  exact⟨by omega,h2⟩) _ _ _ _ (by rw[ha.l,hb.l]) ha.e hb.e h
 refine⟨?_,h⟩
 have:=ha.r;have:=hb.r;have:=ha.v;have:=hb.v
 cases a;cases b
 simp only at*
 congr 1<;>omega
structure Gossip.Puts (n:Nat) (g:Gossip):Prop where
 f:0≤g.From
 t:0≤g.To
 v:∀w∈g.Views,w.Put n
 b:∀w∈g.Batch,w.may=true
theorem gossBody_inj {n:Nat} {g k:Gossip} (hg:g.Puts n) (hk:k.Puts n) (h:gossBody g=gossBody k):g=k:=by
 unfold gossBody at h
 obtain⟨h1,h⟩:=numB_inj _ _ _ _ h
 obtain⟨h2,h⟩:=numB_inj _ _ _ _ h
 obtain⟨h3,h⟩:=numB_inj _ _ _ _ h
 obtain⟨h4,h⟩:=flat_inj viewB (View.Put n) viewB_inj _ _ _ _ h3 hg.v hk.v h
 obtain⟨h5,h⟩:=numB_inj _ _ _ _ h
 have h':versLB g.Batch++ [] =versLB k.Batch++ [] :=by rw[h]
 obtain⟨h6,-⟩:=flat_inj (putVers []) (fun v=>v.may=true) (fun a b x y ha hb h=>vers_inj ha hb h) _ _ _ _ h5 hg.b hk.b h'
 have:=hg.f;have:=hk.f;have:=hg.t;have:=hk.t
 cases g;cases k
 simp only at*
 congr 1<;>omega
theorem sumBytes_inj {s t:Nat} (hs:s<65536) (ht:t<65536) (h:sumBytes s=sumBytes t):s=t:=by
 unfold sumBytes at h
 simp only[List.cons.injEq,and_true]at h
 have h1:=congrArg UInt8.toNat h.1
 have h2:=congrArg UInt8.toNat h.2
 simp only[UInt8.toNat_ofNat']at h1 h2
 omega
theorem goss_end {g:Gossip} {acc b:List UInt8} {s:Int} (h1:acc=numB g.From.toNat++numB g.To.toNat++numB g.Views.length++viewsB g.Views) (h2:b=acc++numB g.Batch.length++versLB g.Batch) (hs:s=(sumB b:Nat)):b++[u8w (Int.fdiv s (2 ^ 8)),u8w s]=gossB g:=by
 have e:b=gossBody g:=by rw[h2,h1];simp only[gossBody,List.append_assoc]
 have hlt:=sumB_lt b
 unfold gossB sumBytes
 rw[←e,hs]
 have e1:Int.fdiv ((sumB b:Nat):Int) (2 ^ 8)=((sumB b/256:Nat):Int):=by
  rw[Int.fdiv_eq_ediv_of_nonneg _ (by decide)];exact(Int.natCast_ediv _ 256).symm
 rw[e1]
 congr 1
 have w:∀n:Nat,u8w (n:Int)=UInt8.ofNat (n%256):=fun n=>by
  unfold u8w
  congr 1
 rw[w,w,Nat.mod_eq_of_lt (show sumB b/256<256 by omega)]
theorem gossB_len (g:Gossip):(gossB g).length=(gossBody g).length+2:=by simp[gossB,sumBytes]
theorem gossB_inj {n:Nat} {g k:Gossip} (hg:g.Puts n) (hk:k.Puts n) (h:gossB g=gossB k):g=k:=by
 have hl:=congrArg List.length h
 rw[gossB_len,gossB_len]at hl
 exact gossBody_inj hg hk (List.append_inj h (by omega)).1
theorem gossB_turn {g k:Gossip} {i:Nat} {y:UInt8} (hi:i<(gossB g).length) (hy:(gossB g)[i]≠y):(gossB g).set i y≠gossB k:=by
 intro h
 have hl:=congrArg List.length h
 rw[List.length_set,gossB_len,gossB_len]at hl
 have hlen:=gossB_len g
 by_cases c:i<(gossBody g).length
 ·have e:(gossB g).set i y=(gossBody g).set i y++sumBytes (sumB (gossBody g)):=by
   unfold gossB;rw[List.set_append_left _ _ c]
  rw[e]at h
  obtain⟨h1,h2⟩:=List.append_inj (show(gossBody g).set i y++sumBytes (sumB (gossBody g))=gossBody k++sumBytes (sumB (gossBody k))from h) (by rw[List.length_set];omega)
  have h3:=sumBytes_inj (sumB_lt _) (sumB_lt _) h2
  rw[←h1]at h3
  refine sumB_set c ?_ h3.symm
  have:(gossB g)[i]=(gossBody g)[i]:=by unfold gossB;exact List.getElem_append_left c
  rw[←this];exact hy
 ·have e:(gossB g).set i y=gossBody g++(sumBytes (sumB (gossBody g))).set (i-(gossBody g).length) y:=by
   unfold gossB;rw[List.set_append_right _ _ (by omega)]
  rw[e]at h
  obtain⟨h1,h2⟩:=List.append_inj (show gossBody g++_=gossBody k++sumBytes (sumB (gossBody k))from h) (by omega)
  rw[←h1]at h2
  have h3:(gossB g).set i y=gossB g:=by rw[e,h2];rfl
  have h4:((gossB g).set i y)[i]? =(gossB g)[i]? :=by rw[h3]
  rw[List.getElem?_set_self hi,List.getElem?_eq_getElem hi]at h4
  exact hy (Option.some.inj h4).symm
end Go.Ab
namespace Go.Ab
open Go
structure Kept (w w':World):Prop where
 same:∀b,b<w.heap.size→w'.heap[b]? =w.heap[b]?
 size:w.heap.size≤w'.heap.size
 os:w'.os=w.os
 out:w'.output=w.output
theorem Kept.but {w w':World} (h:Kept w w') (may:MemPlace→Prop):w.keptBut w' may:=by
 refine⟨h.os,h.out,fun i hi=> ?_⟩
 rw[h.same i hi]
 cases hw:w.heap[i]? with
 |none=>simp
 |some o=>
  cases o<;>simp
theorem callFunc_enter {P:Program} {f:FuncId} {fn:Func} {xs:Array Value} {w:World} (hf:P.funcs[f]? =some fn) (hb:fn.body.isSome=true) (hne:(fn.name== "runtime.NumGoroutine")=false):
  (callFunc f xs).run P w= .ok (.enter f xs) w:=by
 obtain⟨c,hc⟩:=Option.isSome_iff_exists.1 hb
 simp only[callFunc,Sem.run_bind,run_program,Result.andThen_ok,hf,hne,hc,Option.isNone_some,Bool.false_eq_true,if_false,Sem.run_pure]
theorem law_calls {P:Program} {Φg:Phi} {f:FuncId} {fn:Func} {args:List AV} {xs:Array Value} {Φ:Phi} {w:World} (hf:P.funcs[f]? =some fn) (hb:fn.body.isSome=true) (hne:(fn.name== "runtime.NumGoroutine")=false)
  (h:SoundCall P Φg f args [] ⟨.bool true,[],[]⟩) (hr:Rs Φ m0 args xs.toList) (hbase:∀b o x,Φg b o=some x→Φ b o=some x) (hphi:∀b o x,Φ b o=some x→w.cell? ⟨b,o,none⟩=some x):
  Calls P f xs w fun e w'=>e= .returned (.bool true)∧Kept w w':=by
 have:=h Φ m0 w xs hbase hr ⟨hphi,fun s B hB=>(by cases hB),fun _ _=>rfl,fun _ _ _ _ _ _ _ _ _ h=>(by cases h),fun _ _ _ _ h=>(by cases h)⟩
 unfold CallsV at this
 rw[callFunc_enter hf hb hne]at this
 refine Calls.mono this fun e w' he=> ?_
 cases e with
 |returned v=>
  obtain⟨Φ',m',hv,hI',hG'⟩:=he
  cases hv
  exact⟨rfl,⟨fun b hb=>hG'.same b hb fun i e z h=>(by cases h),hG'.size,hG'.os,hG'.out⟩⟩
 |_=>exact he.elim
theorem post_kept {H:Type} {enc:TypeId×Value→H} {P:Program} {f:Func} {s:ChangeSpec} {apart fresh handsOn:Bool} {W W':World} {args:Array Value} {v:Value} {ds gs:List (DataW H)} {before pa pv:List MemPlace}
  (hW:DataW.Whole enc P f.params.toList s.vars apart W args.toList ds gs before)
  (hres:∀(b:Nat) (sp:Nat→Bool) (hd:Bool),DataW.TrodAll enc P W' b sp hd f.resultTypes.toList (v.resultList f.resultTypes.size) (s.fn H (ds++gs)).results [])
  (hargs:∀sp:Nat→Bool,(∀p∈before,sp p.block=true)→DataW.TrodAll enc P W' 0 sp true f.params.toList args.toList (s.fn H (ds++gs)).args pa)
  (hvars:∀sp:Nat→Bool,(∀p∈before,sp p.block=true)→DataW.TrodVars enc P W' sp s.vars (s.fn H (ds++gs)).vars pv)
  (hk:Kept W W'):s.post enc P f apart fresh handsOn false W args v W':=by
 have hold:∀p∈before,(fun b=>decide (b<W.heap.size)) p.block=true:=fun p hp=>by simpa using hW.lt p hp
 refine⟨ds,gs,before,[],pa,pv,hW,hres _ _ _,hargs _ hold,hvars _ hold,hk.but _,fun h=>by cases h⟩
end Go.Ab
namespace Go.Ab
open Go
inductive Ty where
 |bool|int (k:IntKind)|str|slice (e:Ty)|agg (fs:List Ty)
mutual
def Ty.cells:Ty→Nat
 | .agg fs=>Ty.cellsAll fs
 | .bool=>1
 | .int _=>1
 | .str=>1
 | .slice _=>1
def Ty.cellsAll:List Ty→Nat
 | [] =>0
 |f::r=>f.cells+Ty.cellsAll r
end
def Ty.join:Ty→List AV→AV
 | .agg _,as=> .agg as
 |_,as=>oneA as
mutual
def Ty.Wf:Ty→List AV→Prop
 | .bool,as=>∃b,as=[.bool b]
 | .int k,as=>∃n,as=[.int k n]∧(Lit.int k n).wf=true
 | .str,as=>∃s:List UInt8,as=[.str s]∧s.length≤maxLen
 | .slice e,as=>∃rows:List (List AV),as=[.tree (rows.map e.join)]∧rows.length≤maxLen∧∀r∈rows,e.Wf r
 | .agg fs,as=>Ty.WfAll fs as
def Ty.WfAll:List Ty→List AV→Prop
 | [],as=>as= []
 |f::r,as=>∃a b,as=a++b∧f.Wf a∧Ty.WfAll r b
end
mutual
inductive HasTy (P:Program):TypeId→Ty→Prop
 |bool {t:TypeId} :P.underlying t=some .bool→HasTy P t .bool
 |int {t:TypeId} {k:IntKind} :P.underlying t=some (.int k)→HasTy P t (.int k)
 |str {t:TypeId} :P.underlying t=some .string→HasTy P t .str
 |slice {t e:TypeId} {te:Ty} :P.underlying t=some (.slice e)→HasTy P e te→P.cellsOf e=te.cells→0<te.cells→HasTy P t (.slice te)
 |struct {t:TypeId} {fs:Array Field} {tys:List Ty} :P.underlying t=some (.struct fs)→P.cellsOf t=Ty.cellsAll tys→HasFs P 0 fs.toList tys→HasTy P t (.agg tys)
 |array {t e:TypeId} {n:Nat} {te:Ty} :P.underlying t=some (.array n e)→P.cellsOf t=n*te.cells→HasTy P e te→P.cellsOf e=te.cells→HasTy P t (.agg (List.replicate n te))
inductive HasFs (P:Program):Nat→List Field→List Ty→Prop
 |nil {o:Nat} :HasFs P o [] []
 |cons {o:Nat} {f:Field} {ty:Ty} {fs:List Field} {tys:List Ty} :f.offset=o→HasTy P f.type ty→P.cellsOf f.type=ty.cells→HasFs P (o+ty.cells) fs tys→HasFs P o (f::fs) (ty::tys)
end
def phiW (w:World):Phi:=fun b o=>w.cell? ⟨b,o,none⟩
theorem Rs.len {Φ:Phi} {m:LMap} {vs:List AV} {xs:List Value} (h:Rs Φ m vs xs):vs.length=xs.length:=h.1
theorem allOne_append {a b:List AV} :allOneCell (a++b)=(allOneCell a&&allOneCell b):=by
 induction a with
 |nil=>simp[allOneCell]
 |cons x r ih=>simp[allOneCell,ih,Bool.and_assoc]
mutual
theorem Ty.Wf.one:∀ {ty:Ty} {as:List AV},ty.Wf as→allOneCell as=true∧as.length=ty.cells
 | .bool,as,h=>by obtain⟨b,rfl⟩:=h;exact⟨rfl,rfl⟩
 | .int k,as,h=>by obtain⟨n,rfl,_⟩:=h;exact⟨rfl,rfl⟩
 | .str,as,h=>by obtain⟨n,rfl,_⟩:=h;exact⟨rfl,rfl⟩
 | .slice e,as,h=>by obtain⟨n,rfl,_⟩:=h;exact⟨rfl,rfl⟩
 | .agg fs,as,h=>by
  simp only[Ty.Wf,Ty.cells]at h ⊢
  exact Ty.WfAll.one h
theorem Ty.WfAll.one:∀ {tys:List Ty} {as:List AV},Ty.WfAll tys as→allOneCell as=true∧as.length=Ty.cellsAll tys
 | [],as,h=>by simp only[Ty.WfAll]at h;subst h;exact⟨rfl,rfl⟩
 |f::r,as,h=>by
  simp only[Ty.WfAll]at h
  obtain⟨a,b,rfl,ha,hb⟩:=h
  have h1:=ha.one;have h2:=Ty.WfAll.one hb
  simp only[Ty.cellsAll,List.length_append,allOne_append,h1.1,h2.1,h1.2,h2.2,Bool.and_self,and_self]
end
theorem Ty.join_cells {ty:Ty} {as:List AV} (h:ty.Wf as):(ty.join as).cells=as:=by
 have:=h.one
 cases ty<;>simp only[Ty.join,Ty.cells]at*
 case agg=>rfl
 all_goals
  obtain⟨x,rfl⟩:=List.length_eq_one_iff.1 this.2
  simp only[allOneCell,Bool.and_true]at this
  have h1:=this.1
  cases x<;>simp_all[oneA,AV.cells,isOneCell]
section
variable {H:Type} {enc:TypeId×Value→H} {P:Program} {w:World} {base:Nat} {spare:Nat→Bool} {held:Bool}
theorem mapM_range {β:Type} {n:Nat} {f:Nat→Option β} {r:List β} (h:(List.range n).mapM f=some r):r.length=n∧∀i,i<n→∃y,r[i]? =some y∧f i=some y:=by
 have hl:r.length=n:=by simpa using mapM_some_length h
 refine⟨hl,fun i hi=> ?_⟩
 have:=mapM_some_get h i i (by simp[hi])
 exact⟨r[i]'(by omega),by simp[hl,hi],by rw[this];simp[hl,hi]⟩
mutual
theorem trod_wf (ty:Ty) (t:TypeId) (ht:HasTy P t ty):∀ {fuel:Nat} {cs:List Value} {x:DataW H×List MemPlace},DataW.trod enc P w base spare held fuel t cs=some x→∃as,ty.Wf as∧Rs (phiW w) m0 as cs:=by
 intro fuel cs x h
 cases fuel with
 |zero=>simp[DataW.trod]at h
 |succ n=>
  cases ht with
  |bool hu=>
   obtain⟨b,rfl,_⟩:=DataW.trod_bool hu h
   exact⟨[.bool b],⟨b,rfl⟩,.cons (.bool b) .nil⟩
  |int hu=>
   obtain⟨n',rfl,_,hw⟩:=DataW.trod_int hu h
   exact⟨[.int _ n'],⟨n',rfl,hw⟩,.cons (.int _ n') .nil⟩
  |str hu=>
   obtain⟨s,rfl,_,hs⟩:=DataW.trod_string hu h
   exact⟨[.str s.data.toList],⟨_,rfl,by simpa using hs⟩,.cons (.str rfl) .nil⟩
  |slice hu he hc hp=>
   rename_i e te
   rcases DataW.trod_slice hu h with⟨rfl,_⟩|⟨a,len,cap,elems,rest,m,hnm,rfl,_,hb,hlc,hcm,hl,hget,_⟩
   ·exact⟨[.tree []],⟨[],rfl,by simp,by simp⟩,.cons .tree0 .nil⟩
   ·obtain rfl:n=m:=by omega
    rw[hc]at hget
    have hall:∀i,i<len→∃(as:List AV) (ys:List Value),te.Wf as∧w.cells? base (a.add (i*te.cells)) te.cells=some ys∧Rs (phiW w) m0 as ys:=by
     intro i hi
     have hy:=hget i hi
     rw[List.getElem?_eq_getElem (by omega)]at hy
     cases hcs:w.cells? base (a.add (i*te.cells)) te.cells with
     |none=>rw[hcs]at hy;simp at hy
     |some ys=>
      rw[hcs]at hy
      obtain⟨as,h1,h2⟩:=trod_wf te e he (by simpa using hy)
      exact⟨as,ys,h1,rfl,h2⟩
    by_cases h0:len=0
    ·subst h0
     exact⟨[.tree []],⟨[],rfl,by simp,by simp⟩,.cons .tree0 .nil⟩
    ·
     have hspot:a.spot=none:=by
      obtain⟨as,ys,h1,h2,h3⟩:=hall 0 (by omega)
      have h4:=(World.cells?_some h2).2.2 0 hp
      have hly:=(World.cells?_some h2).2.1
      have h5:ys[0]? =some (ys[0]'(by omega)):=by simp[hly,hp]
      rw[h5]at h4
      have:(a.add (0*te.cells)).add 0=a:=by simp[Addr.add]
      rw[this]at h4
      obtain⟨b,o,sp⟩:=a
      exact World.cell?_spot h4
     obtain⟨b,off,sp⟩:=a
     simp only at hspot
     subst hspot
     let row (i:Nat):List AV:=if hi:i<len then(hall i hi).choose else []
     have hrow:∀i (hi:i<len),te.Wf (row i)∧∃ys,w.cells? base (Addr.add ⟨b,off,none⟩ (i*te.cells)) te.cells=some ys∧Rs (phiW w) m0 (row i) ys:=by
      intro i hi
      obtain⟨ys,h1,h2,h3⟩:=(hall i hi).choose_spec
      simp only[row,dif_pos hi]
      exact⟨h1,ys,h2,h3⟩
     let val (i j:Nat):Value:=((w.cell? ⟨b,off+i*te.cells+j,none⟩).getD (.bool false))
     have hcell:∀i (hi:i<len) j (c:AV),(row i)[j]? =some c→w.cell? ⟨b,off+i*te.cells+j,none⟩=some (val i j)∧R (phiW w) m0 c (val i j):=by
      intro i hi j c hj
      obtain⟨hw,ys,h1,h2⟩:=hrow i hi
      obtain⟨y,hy,hr⟩:=h2.2 j c hj
      have hlt:j<te.cells:=by
       have:=(List.getElem?_eq_some_iff.1 hj).1
       rw[hw.one.2]at this;exact this
      have h3:=(World.cells?_some h1).2.2 j hlt
      have h4:(Addr.add ⟨b,off,none⟩ (i*te.cells)).add j=⟨b,off+i*te.cells+j,none⟩:=by
       rw[WideShapes.add_plain,WideShapes.add_plain]
      rw[h4,hy]at h3
      refine⟨?_, ?_⟩
      ·simp only[val,h3,Option.getD_some]
      ·simp only[val,h3,Option.getD_some];exact hr
     refine⟨[.tree ((List.range len).map fun i=>te.join (row i))],⟨(List.range len).map row,by simp,by simp;omega, ?_⟩,.cons ?_ .nil⟩
     ·intro r hr
      simp only[List.mem_map,List.mem_range]at hr
      obtain⟨i,hi,rfl⟩:=hr
      exact(hrow i hi).1
     ·have hidx:∀(i:Nat) (v:AV),((List.range len).map fun i=>te.join (row i))[i]? =some v→i<len∧v.cells=row i:=by
       intro i v hv
       have hi:i<len:=by
        have:=(List.getElem?_eq_some_iff.1 hv).1
        simpa using this
       simp[List.getElem?_range hi]at hv
       subst hv
       exact⟨hi,Ty.join_cells (hrow i hi).1⟩
      have key:=R.tree (Φ:=phiW w) (m:=m0) (xs:=(List.range len).map fun i=>te.join (row i)) (b:=b) (off:=off) (cap:=cap) te.cells val (by simpa using hlc)
       (fun i v hv=>by rw[(hidx i v hv).2];exact(hrow i (hidx i v hv).1).1.one.2)
       (fun i v j c hv hc'=>by rw[(hidx i v hv).2]at hc';exact(hcell i (hidx i v hv).1 j c hc').1)
       (fun i v j c hv hc'=>by rw[(hidx i v hv).2]at hc';exact(hcell i (hidx i v hv).1 j c hc').2)
       (fun i v hv=>by rw[(hidx i v hv).2];exact(hrow i (hidx i v hv).1).1.one.1)
      simpa using key
  |struct hu hc hf=>
   rename_i fs tys
   unfold DataW.trod at h;rw[hu]at h
   simp only at h
   split at h
   ·rename_i hlen
    cases hm:fs.toList.mapM (fun f=>DataW.trod enc P w base spare held n f.type ((cs.drop f.offset).take (P.cellsOf f.type)))with
    |none=>rw[hm]at h;simp at h
    |some xs=>
     obtain⟨as,h1,h2⟩:=trodFs_wf tys 0 fs.toList hf hm (by omega)
     exact⟨as,h1,by simpa using h2⟩
   ·simp at h
  |array hu hc he hec=>
   rename_i e m te
   unfold DataW.trod at h;rw[hu]at h
   simp only at h
   split at h
   ·rename_i hlen
    cases hm:(List.range m).mapM (fun i=>DataW.trod enc P w base spare held n e ((cs.drop (i*P.cellsOf e)).take (P.cellsOf e)))with
    |none=>rw[hm]at h;simp at h
    |some xs=>
     obtain⟨_,hget⟩:=mapM_range hm
     have hall:∀k i,i+k=m→∃as,Ty.WfAll (List.replicate k te) as∧Rs (phiW w) m0 as (cs.drop (i*te.cells)):=by
      intro k
      induction k with
      |zero=>
       intro i hi
       refine⟨[],rfl, ?_⟩
       rw[List.drop_eq_nil_of_le (by rw[hlen,hc];exact Nat.mul_le_mul_right _ (by omega))]
       exact .nil
      |succ k ih=>
       intro i hi
       obtain⟨as,h1,h2⟩:=ih (i+1) (by omega)
       obtain⟨y,_,hy⟩:=hget i (by omega)
       obtain⟨a,h3,h4⟩:=trod_wf te e he hy
       refine⟨a++as,by simp only[List.replicate_succ,Ty.WfAll];exact⟨a,as,rfl,h3,h1⟩, ?_⟩
       have hs:cs.drop (i*te.cells)=(cs.drop (i*te.cells)).take te.cells++cs.drop ((i+1)*te.cells):=by
        rw[show(i+1)*te.cells=i*te.cells+te.cells by rw[Nat.add_mul,Nat.one_mul],←List.drop_drop,List.take_append_drop]
       rw[hs]
       rw[hec]at h4
       exact h4.append h2
     obtain⟨as,h1,h2⟩:=hall m 0 (by omega)
     exact⟨as,by simpa only[Ty.Wf]using h1,by simpa using h2⟩
   ·simp at h
theorem trodFs_wf (tys:List Ty) (o:Nat) (fs:List Field) (hf:HasFs P o fs tys):∀ {n:Nat} {cs:List Value} {xs:List (DataW H×List MemPlace)},
  fs.mapM (fun f=>DataW.trod enc P w base spare held n f.type ((cs.drop f.offset).take (P.cellsOf f.type)))=some xs→cs.length=o+Ty.cellsAll tys→∃as,Ty.WfAll tys as∧Rs (phiW w) m0 as (cs.drop o):=by
 intro n cs xs h hlen
 cases hf with
 |nil=>
  refine⟨[],rfl, ?_⟩
  rw[List.drop_eq_nil_of_le (by rw[hlen];simp[Ty.cellsAll])]
  exact .nil
 |cons ho ht hc hr=>
  rename_i f ty fs tys
  rw[List.mapM_cons]at h
  cases h1:DataW.trod enc P w base spare held n f.type ((cs.drop f.offset).take (P.cellsOf f.type))with
  |none=>rw[h1]at h;simp at h
  |some y=>
   rw[h1]at h
   cases h2:fs.mapM (fun f=>DataW.trod enc P w base spare held n f.type ((cs.drop f.offset).take (P.cellsOf f.type)))with
   |none=>rw[h2]at h;simp at h
   |some ys=>
    obtain⟨a,h3,h4⟩:=trod_wf ty f.type ht h1
    obtain⟨as,h5,h6⟩:=trodFs_wf tys (o+ty.cells) fs hr h2 (by rw[hlen];simp[Ty.cellsAll];omega)
    refine⟨a++as,by simp only[Ty.WfAll];exact⟨a,as,rfl,h3,h5⟩, ?_⟩
    have hs:cs.drop o=(cs.drop o).take ty.cells++cs.drop (o+ty.cells):=by
     rw[←List.drop_drop,List.take_append_drop]
    rw[hs]
    rw[ho,hc]at h4
    exact h4.append h6
end
theorem Rs.single {Φ:Phi} {m:LMap} {as:List AV} {v:Value} (h:Rs Φ m as [v]):∃a,as=[a]∧R Φ m a v:=by
 obtain⟨a,rfl⟩:=List.length_eq_one_iff.1 (by simpa using h.1)
 obtain⟨x,r,he,hr,_⟩:=h.inv_cons
 cases he
 exact⟨a,rfl,hr⟩
theorem okWide_agg {w:World} {r:Reach} {b:Nat} {t:TypeId} {v:Value} (h:Value.okWide P w r b t v) (ht:(∃fs,P.underlying t=some (.struct fs))∨∃n e,P.underlying t=some (.array n e)):∃cs,v= .agg cs:=by
 unfold Value.okWide at h
 rcases ht with⟨fs,ht⟩|⟨n,e,ht⟩<;>rw[ht]at h<;>exact⟨h.choose,h.choose_spec.1⟩
theorem arg_R {w':World} {r:Reach} {b:Nat} {ty:Ty} {t:TypeId} (ht:HasTy P t ty) {v:Value} {d:DataW H} {ps:List MemPlace} (hval:Value.okWide P w' r b t v) (hd:DataW.Trod enc P w base spare held t v d ps):
  ∃as,ty.Wf as∧R (phiW w) m0 (ty.join as) v:=by
 obtain⟨fuel,hf⟩:=hd
 obtain⟨as,h1,h2⟩:=trod_wf ty t ht hf
 refine⟨as,h1, ?_⟩
 cases ht with
 |bool hu=>
  obtain⟨x,rfl⟩:=WideShapes.okWide_bool hu hval
  obtain⟨a,rfl,hr⟩:=Rs.single (v:= .bool x) (by simpa[Value.cells]using h2)
  exact hr
 |int hu=>
  obtain⟨x,rfl⟩:=WideShapes.okWide_int hu hval
  obtain⟨a,rfl,hr⟩:=Rs.single (v:= .int _ x) (by simpa[Value.cells]using h2)
  exact hr
 |str hu=>
  obtain⟨x,rfl⟩:=WideShapes.okWide_string hu hval
  obtain⟨a,rfl,hr⟩:=Rs.single (v:= .string x) (by simpa[Value.cells]using h2)
  exact hr
 |slice hu _ _ _=>
  obtain⟨x,y,z,rfl⟩:=WideShapes.okWide_slice hu hval
  obtain⟨a,rfl,hr⟩:=Rs.single (v:= .slice x y z) (by simpa[Value.cells]using h2)
  exact hr
 |struct hu _ _=>
  obtain⟨cs,rfl⟩:=okWide_agg hval (.inl ⟨_,hu⟩)
  exact R.aggs (by simpa[Value.cells]using h2)
 |array hu _ _ _=>
  obtain⟨cs,rfl⟩:=okWide_agg hval (.inr ⟨_,_,hu⟩)
  exact R.aggs (by simpa[Value.cells]using h2)
theorem args_back {W W':World} (hl:laidOutB P=true) (hm:mapsRowed P=true)
  (hz:((List.range P.types.size).all fun t=>match P.underlying t with|some (.slice e)=>decide (0<P.cellsOf e)|_=>true)=true)
  {ts:List TypeId} {vs:List Value} {ds:List (DataW H)} {ps:List MemPlace} (hT:∀t∈ts,t<P.types.size) (h:DataW.TrodAll enc P W 0 (fun _=>true) true ts vs ds ps)
  (hlt:∀p∈ps,p.block<W.heap.size) (hk:Kept W W') {sp:Nat→Bool} (hs:∀p∈ps,sp p.block=true):DataW.TrodAll enc P W' 0 sp true ts vs ds ps:=by
 have h1:=h.respare (kids_rows hl hm) (fun t e hte=>slices_full_of P hz t e hte) hT hs
 clear hT h hs
 induction ts generalizing vs ds ps with
 |nil=>
  obtain⟨rfl,rfl,rfl⟩:=ChangeShapes.trodAll_nil h1
  exact h1
 |cons t ts ih=>
  obtain⟨v,vs',d,ds',p,q,rfl,rfl,rfl,⟨n,hd⟩,hr⟩:=ChangeShapes.trodAll_cons h1
  refine⟨p,q,⟨n,DataW.trod_carry n _ _ _ hd fun x hx=> ?_⟩,ih (fun x hx=>hlt x (List.mem_append_right _ hx)) hr,rfl⟩
  have hb:=hlt x (List.mem_append_left _ hx)
  cases x with
  |cell b off=>
   simp only[World.sameAt,World.cell?]
   rw[hk.same b hb]
  |map b=>exact hk.same b hb
end
theorem wf_rows {T:Type} (enc:T→AV) (ok:T→Prop) {e:Ty} (h:∀as,e.Wf as→∃x,e.join as=enc x∧ok x) {as:List AV} (hw:(Ty.slice e).Wf as):∃l:List T,(Ty.slice e).join as= .tree (l.map enc)∧(∀x∈l,ok x)∧l.length≤maxLen:=by
 obtain⟨rows,rfl,hlen,hr⟩:=hw
 suffices ∃l:List T,rows.map e.join=l.map enc∧∀x∈l,ok x by
  obtain⟨l,h1,h2⟩:=this
  refine⟨l,by simp only[Ty.join,oneA,h1],h2, ?_⟩
  have:=congrArg List.length h1
  simp only[List.length_map]at this
  omega
 clear hlen
 induction rows with
 |nil=>exact⟨[],rfl,by simp⟩
 |cons r rs ih=>
  obtain⟨l,h1,h2⟩:=ih (fun x hx=>hr x (List.mem_cons_of_mem _ hx))
  obtain⟨x,h3,h4⟩:=h r (hr r List.mem_cons_self)
  exact⟨x::l,by simp[h1,h3],by simpa using⟨h4,h2⟩⟩
theorem wf_u8 {as:List AV} (h:(Ty.int .u8).Wf as):∃c:UInt8,(Ty.int .u8).join as=encB c∧True:=by
 obtain⟨n,rfl,hw⟩:=h
 have h2:0≤n∧n≤255:=by simpa[Lit.wf,IntKind.min,IntKind.max,IntKind.bits,IntKind.signed]using hw
 refine⟨UInt8.ofNat n.toNat, ?_,trivial⟩
 simp only[Ty.join,oneA,encB,AV.int.injEq,true_and,UInt8.toNat_ofNat']
 omega
end Go.Ab
