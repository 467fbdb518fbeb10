/- Functions that are given from outside. -/
import Derived.Test.YtmhceknpmokahaaGreatDoorAbHand
import Derived.Lib.Bytealg
import Derived.Laws.Externs
import Derived.Stop.Asserts
namespace Go.Ab
open Go Go.Proofs
section
variable {P:Program} {Φg:Phi}
theorem ext_sound {f:FuncId} {fn:Func} {e:Array Value→Sem Value} (hf:P.funcs[f]? =some fn) (hname:(fn.name== "runtime.NumGoroutine")=false) (hb:fn.body.isNone=true) (hn:Extern.findNext fn=none) (he:Extern.find fn=some e)
  {args:List AV} {r:AV} (h:∀(Φ:Phi) (m:LMap) (xs:Array Value) (w:World),Rs Φ m args xs.toList→∃x,(e xs).run P w= .ok x w∧R Φ m0 r x):SoundCall P Φg f args [] ⟨r,[],[]⟩:=by
 intro Φ m w xs hbase hxs hI
 obtain⟨x,h1,h2⟩:=h Φ m xs w hxs
 unfold CallsV
 rw[run_callFunc_extern hf hname hb hn he,h1]
 refine⟨Φ,m0,h2,⟨hI.phi,fun s B hB=>(by cases hB),fun _ _=>rfl,fun _ _ _ _ _ _ _ _ _ h=>(by cases h),fun _ _ _ _ h=>(by cases h)⟩,
  ⟨fun _ _ _ h=>h,fun b o h h'=>absurd h' h,fun i b e z h=> ?_,fun _ _ _ _ h=>(by cases h),fun _ _ _=>rfl,Nat.le_refl _,rfl,rfl,rfl,hbase⟩⟩
 rw[hI.map (.inc i) rfl]at h
 cases h
def kIdx (f:Nat) (g:FuncId) (args:List AV) (inc:List Blk):Option Res:=
 bif Nat.beq g f then(match args,inc with
  | [.str s,.int .u8 c],[] =>some ⟨.int .i64 (Go.Lib.indexByte s c.toNat.toUInt8),[],[]⟩
  |_,_=>none)else none
theorem kIdx_ok {f:FuncId} {fn:Func} (hf:P.funcs[f]? =some fn) (hname:(fn.name== "runtime.NumGoroutine")=false) (hb:fn.body.isNone=true) (hn:Extern.findNext fn=none) (he:Extern.find fn=some Extern.BytealgIndexByte.indexByte)
  {g:FuncId} {args:List AV} {inc:List Blk} {r:Res} (h:kIdx f g args inc=some r):SoundCall P Φg g args inc r:=by
 unfold kIdx at h
 cases hb':Nat.beq g f with
 |false=>rw[hb']at h;cases h
 |true=>
  rw[hb']at h
  rw[Nat.beq_eq]at hb'
  subst hb'
  simp only[cond_true]at h
  split at h
  ·rename_i s c
   cases h
   refine ext_sound hf hname hb hn he fun Φ m xs w hxs=> ?_
   obtain⟨v0,r0,ha0,hr0,hxs⟩:=hxs.inv_cons
   obtain⟨v1,r1,rfl,hr1,hxs⟩:=hxs.inv_cons
   have hnil:=hxs.inv_nil
   subst hnil
   cases hr1
   cases hr0 with
   |str hs=>
    rename_i x
    have hargs:xs= #[.string x,.int .u8 c]:=by apply Array.ext';simpa using ha0
    subst hargs
    exact⟨_,Go.Lib.run_indexByteString x c w,by rw[hs];exact .int _ _⟩
  ·cases h
def kTypeOf (f rt hg:Nat) (g:FuncId) (args:List AV) (inc:List Blk):Option Res:=
 bif Nat.beq g f then(match args,inc with
  | [.iface t _],[] =>some ⟨.iface rt (.agg [.raw (.pointer (some ⟨hg,t,none⟩))]),[],[]⟩
  |_,_=>none)else none
theorem kTypeOf_ok {f rt hg:Nat} {fn:Func} (hf:P.funcs[f]? =some fn) (hname:(fn.name== "runtime.NumGoroutine")=false) (hb:fn.body.isNone=true) (hn:Extern.findNext fn=none) (he:Extern.find fn=some Extern.ReflectliteType.typeOf)
  (hrun:∀(t:TypeId) (v:Value) (w:World),(Extern.ReflectliteType.typeOf #[.iface t v]).run P w= .ok (.iface rt (.agg #[.pointer (some ⟨hg,t,none⟩)])) w)
  {g:FuncId} {args:List AV} {inc:List Blk} {r:Res} (h:kTypeOf f rt hg g args inc=some r):SoundCall P Φg g args inc r:=by
 unfold kTypeOf at h
 cases hb':Nat.beq g f with
 |false=>rw[hb']at h;cases h
 |true=>
  rw[hb']at h
  rw[Nat.beq_eq]at hb'
  subst hb'
  simp only[cond_true]at h
  split at h
  ·rename_i t v
   cases h
   refine ext_sound hf hname hb hn he fun Φ m xs w hxs=> ?_
   obtain⟨v0,r0,ha0,hr0,hxs⟩:=hxs.inv_cons
   have hnil:=hxs.inv_nil
   subst hnil
   cases hr0 with
   |iface hv=>
    rename_i x
    have hargs:xs= #[.iface t x]:=by apply Array.ext';simpa using ha0
    subst hargs
    exact⟨_,hrun t x w,.iface (.aggs (.cons (.raw rfl) .nil))⟩
  ·cases h
def HandleTab (P:Program) (e:Array Value→Sem Value) (hg:Nat):List (Nat×Bool)→Prop
 | [] =>True
 |(t,b)::r=>(∀w:World,(e #[.agg #[.pointer (some ⟨hg,t,none⟩)]]).run P w= .ok (.bool b) w)∧HandleTab P e hg r
theorem HandleTab.get {e:Array Value→Sem Value} {hg:Nat} :∀ {l:List (Nat×Bool)},HandleTab P e hg l→∀ {t b},look1 l t=some b→∀w:World,(e #[.agg #[.pointer (some ⟨hg,t,none⟩)]]).run P w= .ok (.bool b) w
 | [],_,t,b,h=>by cases h
 |(u,c)::r,hl,t,b,h=>by
  unfold look1 at h
  cases he:Nat.beq u t with
  |true=>rw[he]at h;cases h;rw[Nat.beq_eq]at he;subst he;exact hl.1
  |false=>rw[he]at h;exact hl.2.get h
def kHandle (f hg:Nat) (tab:List (Nat×Bool)) (g:FuncId) (args:List AV) (inc:List Blk):Option Res:=
 bif Nat.beq g f then(match args,inc with
  | [.agg [.raw (.pointer (some ⟨b,t,none⟩))]],[] =>bif Nat.beq b hg then(match look1 tab t with
   |some c=>some ⟨.bool c,[],[]⟩
   |none=>none)else none
  |_,_=>none)else none
theorem kHandle_ok {f hg:Nat} {tab:List (Nat×Bool)} {fn:Func} {e:Array Value→Sem Value} (hf:P.funcs[f]? =some fn) (hname:(fn.name== "runtime.NumGoroutine")=false) (hb:fn.body.isNone=true) (hn:Extern.findNext fn=none) (he:Extern.find fn=some e)
  (htab:HandleTab P e hg tab) {g:FuncId} {args:List AV} {inc:List Blk} {r:Res} (h:kHandle f hg tab g args inc=some r):SoundCall P Φg g args inc r:=by
 unfold kHandle at h
 cases hb':Nat.beq g f with
 |false=>rw[hb']at h;cases h
 |true=>
  rw[hb']at h
  rw[Nat.beq_eq]at hb'
  subst hb'
  simp only[cond_true]at h
  split at h
  ·rename_i b t
   cases hbg:Nat.beq b hg with
   |false=>rw[hbg]at h;cases h
   |true=>
    rw[hbg]at h
    rw[Nat.beq_eq]at hbg
    subst hbg
    simp only[cond_true]at h
    split at h
    ·rename_i c hc
     cases h
     refine ext_sound hf hname hb hn he fun Φ m xs w hxs=> ?_
     obtain⟨v0,r0,ha0,hr0,hxs⟩:=hxs.inv_cons
     have hnil:=hxs.inv_nil
     subst hnil
     obtain⟨ys,rfl,hys⟩:=hr0.agg_inv
     obtain⟨y,r1,hy0,hy1,hys⟩:=hys.inv_cons
     have hnil:=hys.inv_nil
     subst hnil
     cases hy1
     have hys':ys= #[.pointer (some ⟨b,t,none⟩)]:=by apply Array.ext';simpa using hy0
     subst hys'
     have hargs:xs= #[.agg #[.pointer (some ⟨b,t,none⟩)]]:=by apply Array.ext';simpa using ha0
     subst hargs
     exact⟨_,htab.get hc w,.bool c⟩
    ·cases h
  ·cases h
def assertsB (P:Program) (t u:TypeId) (b:Bool):Bool:=
 match P.underlying u,P.info? t with
 |some (.interface ms),some i=>bif b then(lacking ms i.methods).isEmpty else !(lacking ms i.methods).isEmpty
 |_,_=>false
theorem assertsB_ok {t u:TypeId} {b:Bool} (h:assertsB P t u b=true):Asserts P t u b:=by
 unfold assertsB at h
 split at h
 ·rename_i ms i hu hi
  refine⟨ms,i,hu,hi, ?_⟩
  cases b with
  |true=>
   have:lacking ms i.methods= [] :=by simpa using h
   exact⟨fun _=>missingMethod_none this,fun _=>rfl⟩
  |false=>
   have:lacking ms i.methods≠ [] :=by
    intro hn;rw[hn]at h;cases h
   obtain⟨m,hm⟩:=missingMethod_some this
   exact⟨fun hb=>(by cases hb),fun hn=>by rw[hm]at hn;cases hn⟩
 ·cases h
def look2o {β:Type} :List (Nat×Nat×β)→Nat→Nat→Option β
 | [],_,_=>none
 |(a,b,x)::r,f,i=>bif Nat.beq a f&&Nat.beq b i then some x else look2o r f i
def taB (P:Program):List (Nat×Nat×Bool)→Bool
 | [] =>true
 |(t,u,b)::r=>assertsB P t u b&&taB P r
theorem taB_ok:∀ {l:List (Nat×Nat×Bool)},taB P l=true→∀ {t u b},look2o l t u=some b→Asserts P t u b
 | [],_,t,u,b,h=>by cases h
 |(t',u',b')::r,hl,t,u,b,h=>by
  simp only[taB,Bool.and_eq_true]at hl
  unfold look2o at h
  cases he:(Nat.beq t' t&&Nat.beq u' u)with
  |true=>
   rw[he]at h;cases h
   simp only[Bool.and_eq_true,Nat.beq_eq]at he
   obtain⟨rfl,rfl⟩:=he
   exact assertsB_ok hl.1
  |false=>rw[he]at h;exact taB_ok hl.2 h
def MethTab (P:Program):List (Nat×String×Nat×Bool)→Prop
 | [] =>True
 |(t,n,f,b)::r=>IsMeth P t n f b∧MethTab P r
def lookM:List (Nat×String×Nat×Bool)→Nat→String→Option (Nat×Bool)
 | [],_,_=>none
 |(a,n,f,b)::r,t,m=>bif Nat.beq a t&&decide (n=m)then some (f,b)else lookM r t m
theorem MethTab.get:∀ {l:List (Nat×String×Nat×Bool)},MethTab P l→∀ {t n f b},lookM l t n=some (f,b)→IsMeth P t n f b
 | [],_,t,n,f,b,h=>by cases h
 |(a,n',f',b')::r,hl,t,n,f,b,h=>by
  unfold lookM at h
  cases he:(Nat.beq a t&&decide (n'=n))with
  |true=>
   rw[he]at h;cases h
   simp only[Bool.and_eq_true,Nat.beq_eq,decide_eq_true_eq]at he
   obtain⟨rfl,rfl⟩:=he
   exact hl.1
  |false=>rw[he]at h;exact hl.2.get h
theorem ext_sound' {f:FuncId} {fn:Func} {e:Array Value→Sem Value} (hf:P.funcs[f]? =some fn) (hname:(fn.name== "runtime.NumGoroutine")=false) (hb:fn.body.isNone=true) (hn:Extern.findNext fn=none) (he:Extern.find fn=some e)
  {args:List AV} {inc:List Blk} {r:AV} (h:∀(Φ:Phi) (m:LMap) (xs:Array Value) (w:World),Inv Φ m w (incH 0 inc)→Rs Φ m args xs.toList→∃x,(e xs).run P w= .ok x w∧R Φ m r x):SoundCall P Φg f args inc ⟨r,inc,[]⟩:=by
 intro Φ m w xs hbase hxs hI
 obtain⟨x,h1,h2⟩:=h Φ m xs w hI hxs
 unfold CallsV
 rw[run_callFunc_extern hf hname hb hn he,h1]
 refine⟨Φ,m,h2,hI.congr fun s=> ?_,Glob.start hI hbase⟩
 simp[outH]
def kPat (f:Nat) (pat:List AV→List Blk→Option AV) (g:FuncId) (args:List AV) (inc:List Blk):Option Res:=
 bif Nat.beq g f then(match pat args inc with
  |some r=>some ⟨r,inc,[]⟩
  |none=>none)else none
def PatOk (P:Program) (e:Array Value→Sem Value) (pat:List AV→List Blk→Option AV):Prop:=
 ∀args inc r,pat args inc=some r→∀(Φ:Phi) (m:LMap) (xs:Array Value) (w:World),Inv Φ m w (incH 0 inc)→Rs Φ m args xs.toList→∃x,(e xs).run P w= .ok x w∧R Φ m r x
theorem kPat_ok {f:Nat} {pat:List AV→List Blk→Option AV} {fn:Func} {e:Array Value→Sem Value} (hf:P.funcs[f]? =some fn) (hname:(fn.name== "runtime.NumGoroutine")=false) (hb:fn.body.isNone=true) (hn:Extern.findNext fn=none) (he:Extern.find fn=some e)
  (hp:PatOk P e pat) {g:FuncId} {args:List AV} {inc:List Blk} {r:Res} (h:kPat f pat g args inc=some r):SoundCall P Φg g args inc r:=by
 unfold kPat at h
 cases hb':Nat.beq g f with
 |false=>rw[hb']at h;cases h
 |true=>
  rw[hb']at h
  rw[Nat.beq_eq]at hb'
  subst hb'
  simp only[cond_true]at h
  split at h
  ·rename_i r' hr
   cases h
   exact ext_sound' hf hname hb hn he fun Φ m xs w hI hxs=>hp args inc r' hr Φ m xs w hI hxs
  ·cases h
abbrev hand (hg t:Nat):AV:= .raw (.pointer (some ⟨hg,t,none⟩))
def isHand (hg t:Nat) (v:AV):Bool:=
 match v with
 | .raw (.pointer (some ⟨b,u,none⟩))=>Nat.beq b hg&&Nat.beq u t
 |_=>false
theorem isHand_ok {hg t:Nat} {v:AV} (h:isHand hg t v=true):v=hand hg t:=by
 unfold isHand at h
 split at h
 ·simp only[Bool.and_eq_true,Nat.beq_eq]at h;rw[h.1,h.2]
 ·cases h
theorem R.hand {Φ:Phi} {m:LMap} {hg t:Nat} {x:Value} (h:R Φ m (Go.Ab.hand hg t) x):x= .pointer (some ⟨hg,t,none⟩):=by
 cases h;rfl
theorem Rs.one1 {Φ:Phi} {m:LMap} {v:AV} {xs:Array Value} (h:Rs Φ m [v] xs.toList):∃x,xs= #[x]∧R Φ m v x:=by
 obtain⟨x,r,h0,hr,hs⟩:=h.inv_cons
 have:=hs.inv_nil
 subst this
 exact⟨x,by apply Array.ext';simpa using h0,hr⟩
theorem Rs.two2 {Φ:Phi} {m:LMap} {v u:AV} {xs:Array Value} (h:Rs Φ m [v,u] xs.toList):∃x y,xs= #[x,y]∧R Φ m v x∧R Φ m u y:=by
 obtain⟨x,r,h0,hr,hs⟩:=h.inv_cons
 obtain⟨y,r',rfl,hr',hs'⟩:=hs.inv_cons
 have:=hs'.inv_nil
 subst this
 exact⟨x,y,by apply Array.ext';simpa using h0,hr,hr'⟩
theorem Rs.three3 {Φ:Phi} {m:LMap} {v u t:AV} {xs:Array Value} (h:Rs Φ m [v,u,t] xs.toList):∃x y z,xs= #[x,y,z]∧R Φ m v x∧R Φ m u y∧R Φ m t z:=by
 obtain⟨x,r,h0,hr,hs⟩:=h.inv_cons
 obtain⟨y,r',rfl,hr',hs'⟩:=hs.inv_cons
 obtain⟨z,r'',rfl,hr'',hs''⟩:=hs'.inv_cons
 have:=hs''.inv_nil
 subst this
 exact⟨x,y,z,by apply Array.ext';simpa using h0,hr,hr',hr''⟩
def patKind (hg t k:Nat) (args:List AV) (_:List Blk):Option AV:=
 match args with
 | [v]=>bif isHand hg t v then some (.int .u8 k)else none
 |_=>none
theorem patKind_ok {e:Array Value→Sem Value} {hg t k:Nat} (h:∀w:World,(e #[.pointer (some ⟨hg,t,none⟩)]).run P w= .ok (.int .u8 k) w):PatOk P e (patKind hg t k):=by
 intro args inc r hr Φ m xs w hI hxs
 unfold patKind at hr
 split at hr
 ·rename_i v
  cases hh:isHand hg t v with
  |false=>rw[hh]at hr;cases hr
  |true=>
   rw[hh]at hr;cases hr
   obtain⟨x,rfl,hx⟩:=hxs.one1
   rw[isHand_ok hh]at hx
   obtain rfl:=hx.hand
   exact⟨_,h w,.int _ _⟩
 ·cases hr
def patElem (hg rt t u:Nat) (args:List AV) (_:List Blk):Option AV:=
 match args with
 | [.agg [v]]=>bif isHand hg t v then some (.iface rt (.agg [hand hg u]))else none
 |_=>none
theorem patElem_ok {e:Array Value→Sem Value} {hg rt t u:Nat} (h:∀w:World,(e #[.agg #[.pointer (some ⟨hg,t,none⟩)]]).run P w= .ok (.iface rt (.agg #[.pointer (some ⟨hg,u,none⟩)])) w):PatOk P e (patElem hg rt t u):=by
 intro args inc r hr Φ m xs w hI hxs
 unfold patElem at hr
 split at hr
 ·rename_i v
  cases hh:isHand hg t v with
  |false=>rw[hh]at hr;cases hr
  |true=>
   rw[hh]at hr;cases hr
   obtain⟨x,rfl,hx⟩:=hxs.one1
   obtain⟨ys,rfl,hys⟩:=hx.agg_inv
   obtain⟨y,rfl,hy⟩:=hys.one1
   rw[isHand_ok hh]at hy
   obtain rfl:=hy.hand
   exact⟨_,h w,.iface (.aggs (.cons (.raw rfl) .nil))⟩
 ·cases hr
def patRel (hg t u:Nat) (b:Bool) (args:List AV) (_:List Blk):Option AV:=
 match args with
 | [.agg [v],.iface _ (.agg [x])]=>bif isHand hg t v&&isHand hg u x then some (.bool b)else none
 |_=>none
theorem patRel_ok {e:Array Value→Sem Value} {hg t u:Nat} {b:Bool} (h:∀(rt:TypeId) (w:World),(e #[.agg #[.pointer (some ⟨hg,t,none⟩)],.iface rt (.agg #[.pointer (some ⟨hg,u,none⟩)])]).run P w= .ok (.bool b) w):PatOk P e (patRel hg t u b):=by
 intro args inc r hr Φ m xs w hI hxs
 unfold patRel at hr
 split at hr
 ·rename_i v rt x
  cases hh:(isHand hg t v&&isHand hg u x)with
  |false=>rw[hh]at hr;cases hr
  |true=>
   rw[hh]at hr;cases hr
   simp only[Bool.and_eq_true]at hh
   obtain⟨a,c,rfl,ha,hc⟩:=hxs.two2
   obtain⟨ys,rfl,hys⟩:=ha.agg_inv
   obtain⟨y,rfl,hy⟩:=hys.one1
   rw[isHand_ok hh.1]at hy
   obtain rfl:=hy.hand
   cases hc with
   |iface hc=>
    obtain⟨ys,rfl,hys⟩:=hc.agg_inv
    obtain⟨y,rfl,hy⟩:=hys.one1
    rw[isHand_ok hh.2]at hy
    obtain rfl:=hy.hand
    exact⟨_,h rt w,.bool _⟩
 ·cases hr
def patType (hg rt t k:Nat) (args:List AV) (_:List Blk):Option AV:=
 match args with
 | [.agg [v,.ref _ _ _,.int .u64 n]]=>bif isHand hg t v&&decide (n=k)then some (.iface rt (.agg [hand hg t]))else none
 |_=>none
theorem patType_ok {e:Array Value→Sem Value} {hg rt t k:Nat} (h:∀(a:Addr) (w:World),(e #[.agg #[.pointer (some ⟨hg,t,none⟩),.pointer (some a),.int .u64 k]]).run P w= .ok (.iface rt (.agg #[.pointer (some ⟨hg,t,none⟩)])) w):PatOk P e (patType hg rt t k):=by
 intro args inc r hr Φ m xs w hI hxs
 unfold patType at hr
 split at hr
 ·rename_i v s i o n
  cases hh:(isHand hg t v&&decide (n=k))with
  |false=>rw[hh]at hr;cases hr
  |true=>
   rw[hh]at hr;cases hr
   simp only[Bool.and_eq_true,decide_eq_true_eq]at hh
   obtain⟨a,rfl,ha⟩:=hxs.one1
   obtain⟨ys,rfl,hys⟩:=ha.agg_inv
   obtain⟨y,p,q,rfl,hy,hp,hq⟩:=hys.three3
   rw[isHand_ok hh.1]at hy
   obtain rfl:=hy.hand
   cases hq
   rw[hh.2]
   cases hp with
   |ref hm=>exact⟨_,h _ w,.iface (.aggs (.cons (.raw rfl) .nil))⟩
 ·cases hr
def patIsNil (hg t k:Nat) (args:List AV) (inc:List Blk):Option AV:=
 match args,inc with
 | [.agg [v,.ref (.inc 0) 0 0,.int .u64 n]],.box (.ref _ _ _) _::_=>bif isHand hg t v&&decide (n=k)then some (.bool false)else none
 |_,_=>none
theorem box_cell {Φ:Phi} {m:LMap} {w:World} {v:AV} {wr:Bool} {l:List Blk} {x:Value} (hI:Inv Φ m w (incH 0 (.box v wr::l))) (hx:R Φ m (.ref (.inc 0) 0 0) x) {j:Nat} {c:AV} (hc:v.cells[j]? =some c):
  ∃b y,x= .pointer (some ⟨b,0,none⟩)∧w.cell? ⟨b,j,none⟩=some y∧R Φ m c y:=by
 have hg:hget (incH 0 (.box v wr::l)) (.inc 0)=some (.box v wr):=by simp[incH,hget,Site.eq_refl]
 obtain⟨b,e,hbox⟩:=hI.blk _ _ hg
 cases hx with
 |ref hm=>
  have hl:=hbox.loc
  rw[hm]at hl
  cases hl
  obtain⟨y,hy,hr⟩:=hbox.cell j c hc
  exact⟨_,y,by simp,hy,hr⟩
theorem patIsNil_ok {e:Array Value→Sem Value} {hg t k:Nat} (h:∀(a p:Addr) (w:World),w.cell? a=some (.pointer (some p))→(e #[.agg #[.pointer (some ⟨hg,t,none⟩),.pointer (some a),.int .u64 k]]).run P w= .ok (.bool false) w):PatOk P e (patIsNil hg t k):=by
 intro args inc r hr Φ m xs w hI hxs
 unfold patIsNil at hr
 split at hr
 ·rename_i v n s i o wr l
  cases hh:(isHand hg t v&&decide (n=k))with
  |false=>rw[hh]at hr;cases hr
  |true=>
   rw[hh]at hr;cases hr
   simp only[Bool.and_eq_true,decide_eq_true_eq]at hh
   obtain⟨a,rfl,ha⟩:=hxs.one1
   obtain⟨ys,rfl,hys⟩:=ha.agg_inv
   obtain⟨y,p,q,rfl,hy,hp,hq⟩:=hys.three3
   rw[isHand_ok hh.1]at hy
   obtain rfl:=hy.hand
   cases hq
   rw[hh.2]
   obtain⟨b,z,rfl,hz,hzr⟩:=box_cell (j:=0) hI hp rfl
   cases hzr with
   |ref hm=>exact⟨_,h _ _ w hz,.bool _⟩
 ·cases hr
def patElemV (hg t u k k':Nat) (args:List AV) (inc:List Blk):Option AV:=
 match args,inc with
 | [.agg [v,.ref (.inc 0) 0 0,.int .u64 n]],.box (.ref s i o) _::_=>bif isHand hg t v&&decide (n=k)then some (.agg [hand hg u,.ref s i o,.int .u64 k'])else none
 |_,_=>none
theorem patElemV_ok {e:Array Value→Sem Value} {hg t u k k':Nat} (h:∀(a p:Addr) (w:World),w.cell? a=some (.pointer (some p))→(e #[.agg #[.pointer (some ⟨hg,t,none⟩),.pointer (some a),.int .u64 k]]).run P w= .ok (.agg #[.pointer (some ⟨hg,u,none⟩),.pointer (some p),.int .u64 k']) w):PatOk P e (patElemV hg t u k k'):=by
 intro args inc r hr Φ m xs w hI hxs
 unfold patElemV at hr
 split at hr
 ·rename_i v n s i o wr l
  cases hh:(isHand hg t v&&decide (n=k))with
  |false=>rw[hh]at hr;cases hr
  |true=>
   rw[hh]at hr;cases hr
   simp only[Bool.and_eq_true,decide_eq_true_eq]at hh
   obtain⟨a,rfl,ha⟩:=hxs.one1
   obtain⟨ys,rfl,hys⟩:=ha.agg_inv
   obtain⟨y,p,q,rfl,hy,hp,hq⟩:=hys.three3
   rw[isHand_ok hh.1]at hy
   obtain rfl:=hy.hand
   cases hq
   rw[hh.2]
   obtain⟨b,z,rfl,hz,hzr⟩:=box_cell (j:=0) hI hp rfl
   have hzr':=hzr
   cases hzr with
   |ref hm=>exact⟨_,h _ _ w hz,.aggs (.cons (.raw rfl) (.cons hzr' (.cons (.int _ _) .nil)))⟩
 ·cases hr
def kValueOf (f hg t k:Nat) (g:FuncId) (args:List AV) (inc:List Blk):Option Res:=
 bif Nat.beq g f then(match args with
  | [.iface u v]=>bif Nat.beq u t&&allOneCell v.cells then some ⟨.agg [hand hg t,.ref (.out 0) 0 0,.int .u64 k],inc,[.box v true]⟩else none
  |_=>none)else none
theorem kValueOf_ok {f hg t k:Nat} {fn:Func} {e:Array Value→Sem Value} (hf:P.funcs[f]? =some fn) (hname:(fn.name== "runtime.NumGoroutine")=false) (hb:fn.body.isNone=true) (hn:Extern.findNext fn=none) (he:Extern.find fn=some e)
  (hrun:∀(x:Value) (w:World),(e #[.iface t x]).run P w= .ok (.agg #[.pointer (some ⟨hg,t,none⟩),.pointer (some ⟨w.heap.size,0,none⟩),.int .u64 k]) (w.alloc (.cells x.cells t)))
  {g:FuncId} {args:List AV} {inc:List Blk} {r:Res} (h:kValueOf f hg t k g args inc=some r):SoundCall P Φg g args inc r:=by
 unfold kValueOf at h
 cases hb':Nat.beq g f with
 |false=>rw[hb']at h;cases h
 |true=>
  rw[hb']at h
  rw[Nat.beq_eq]at hb'
  subst hb'
  simp only[cond_true]at h
  split at h
  ·rename_i u v
   cases hh:(Nat.beq u t&&allOneCell v.cells)with
   |false=>rw[hh]at h;cases h
   |true=>
    rw[hh]at h;cases h
    simp only[Bool.and_eq_true,Nat.beq_eq]at hh
    obtain⟨rfl,hone⟩:=hh
    intro Φ m w xs hbase hxs hI
    obtain⟨a,rfl,ha⟩:=hxs.one1
    cases ha with
    | @iface _ _ _ x hv=>
     unfold CallsV
     rw[run_callFunc_extern hf hname hb hn he,hrun]
     have ho:hget (incH 0 inc) (.out 0)=none:=by rw[incH_get]
     have hmo:=hI.map _ ho
     have hc:=hv.cells (allOne_ne_top hone)
     have hB:=box_new (st:= .out 0) (t:=u) (e:=0) hmo hc (fun o=>hI.phi_new o)
     have hI1:=hI.alloc ho hB
     refine⟨Φ,upd m (.out 0) (.at w.heap.size 0 (x.cells.size,0)),.aggs (.cons (.raw rfl) (.cons ref_new (.cons (.int _ _) .nil))),hI1.congr fun s=> ?_,(Glob.start hI hbase).alloc hmo⟩
     rw[hget_append]
     by_cases hs:Site.out 0=s
     ·subst hs;rw[hget_cons_same,ho];simp[outH,hget,Site.eq_refl]
     ·rw[hget_cons_ne _ _ hs]
      cases hq:hget (incH 0 inc) s with
      |some B=>rfl
      |none=>simp only[outH];rw[hget_cons_ne _ _ hs];rfl
  ·cases h
def kSet (f hg t k k':Nat) (g:FuncId) (args:List AV) (inc:List Blk):Option Res:=
 bif Nat.beq g f then(match args,inc with
  | [.agg [a,.ref (.inc 0) 0 0,.int .u64 n],.agg [b,.ref (.inc 1) 0 0,.int .u64 n']],.box old true:: .box v wr::l=>
   bif isHand hg t a&&isHand hg t b&&decide (n=k)&&decide (n'=k')&&Nat.beq old.cells.length 1&&Nat.beq v.cells.length 1&&allOneCell v.cells then some ⟨.tuple [],.box v true:: .box v wr::l,[]⟩else none
  |_,_=>none)else none
theorem kSet_ok {f hg t k k':Nat} {fn:Func} {e:Array Value→Sem Value} (hf:P.funcs[f]? =some fn) (hname:(fn.name== "runtime.NumGoroutine")=false) (hb:fn.body.isNone=true) (hn:Extern.findNext fn=none) (he:Extern.find fn=some e)
  (hrun:∀(ta b:Addr) (x old:Value) (w:World),w.cell? b=some x→w.cell? ta=some old→w.frozen? ta=false→x.oneCell'=true→
    (e #[.agg #[.pointer (some ⟨hg,t,none⟩),.pointer (some ta),.int .u64 k],.agg #[.pointer (some ⟨hg,t,none⟩),.pointer (some b),.int .u64 k']]).run P w= .ok (.tuple #[]) (w.setCell ta x))
  {g:FuncId} {args:List AV} {inc:List Blk} {r:Res} (h:kSet f hg t k k' g args inc=some r):SoundCall P Φg g args inc r:=by
 unfold kSet at h
 cases hb':Nat.beq g f with
 |false=>rw[hb']at h;cases h
 |true=>
  rw[hb']at h
  rw[Nat.beq_eq]at hb'
  subst hb'
  simp only[cond_true]at h
  split at h
  ·rename_i a n b n' old v wr l
   cases hh:(isHand hg t a&&isHand hg t b&&decide (n=k)&&decide (n'=k')&&Nat.beq old.cells.length 1&&Nat.beq v.cells.length 1&&allOneCell v.cells)with
   |false=>rw[hh]at h;cases h
   |true=>
    rw[hh]at h;cases h
    simp only[Bool.and_eq_true,Nat.beq_eq,decide_eq_true_eq]at hh
    obtain⟨⟨⟨⟨⟨⟨h1,h2⟩,rfl⟩,rfl⟩,h3⟩,h4⟩,h5⟩:=hh
    intro Φ m w xs hbase hxs hI
    obtain⟨x,y,rfl,hx,hy⟩:=hxs.two2
    obtain⟨xs',rfl,hxs'⟩:=hx.agg_inv
    obtain⟨p,q,s,rfl,hp,hq,hs⟩:=hxs'.three3
    rw[isHand_ok h1]at hp
    obtain rfl:=hp.hand
    cases hs
    obtain⟨ys',rfl,hys'⟩:=hy.agg_inv
    obtain⟨p,q',s,rfl,hp,hq',hs⟩:=hys'.three3
    rw[isHand_ok h2]at hp
    obtain rfl:=hp.hand
    cases hs
    have hg0:hget (incH 0 (.box old true:: .box v wr::l)) (.inc 0)=some (.box old true):=by simp[incH,hget,Site.eq_refl]
    have hg1:hget (incH 0 (.box old true:: .box v wr::l)) (.inc 1)=some (.box v wr):=rfl
    obtain⟨b0,e0,hbox0⟩:=hI.blk _ _ hg0
    obtain⟨b1,e1,hbox1⟩:=hI.blk _ _ hg1
    obtain⟨c,hvc⟩:∃c,v.cells=[c]:=by
     cases hv:v.cells with
     |nil=>rw[hv]at h4;cases h4
     |cons c r=>cases r with
      |nil=>exact⟨c,rfl⟩
      |cons=>rw[hv]at h4;simp at h4
    obtain⟨d,hoc⟩:∃d,old.cells=[d]:=by
     cases hv:old.cells with
     |nil=>rw[hv]at h3;cases h3
     |cons c r=>cases r with
      |nil=>exact⟨c,rfl⟩
      |cons=>rw[hv]at h3;simp at h3
    cases hq with
    |ref hm0=>
    cases hq' with
    |ref hm1=>
    have hl0:=hbox0.loc
    rw[hm0]at hl0
    cases hl0
    have hl1:=hbox1.loc
    rw[hm1]at hl1
    cases hl1
    obtain⟨x,hxc,hxr⟩:=hbox1.cell 0 c (by rw[hvc];rfl)
    obtain⟨o,hoc',_⟩:=hbox0.cell 0 d (by rw[hoc];rfl)
    have hxo:x.oneCell'=true:=(hxr.one (allOne_at h5 (j:=0) (by rw[hvc];rfl))).2
    unfold CallsV
    rw[run_callFunc_extern hf hname hb hn he,hrun _ _ x o w (by simpa using hxc) (by simpa using hoc') (by simpa using hbox0.nf 0 (by rw[h3];exact Nat.one_pos)) hxo]
    simp only[Result.andThen_ok,Nat.zero_mul,Nat.add_zero]
    have hset:w.setCell ⟨b0,0,none⟩ x=w.setCells b0 0 [x]:=rfl
    rw[hset]
    have hB':BlkOk Φ m (w.setCells b0 0 [x]) (.inc 0) (.box v true):=by
     refine⟨b0,e0,⟨by rw[hbox0.loc,h3,h4], ?_,fun j c' hc'=> ?_,fun o ho=> ?_,hbox0.phi⟩⟩
     ·obtain⟨tt,ht⟩:=hbox0.shape
      exact⟨tt,by rw[setCells_shape,ht,h3,h4]⟩
     ·rw[hvc]at hc'
      cases j with
      |succ j=>simp at hc'
      |zero=>
       simp at hc';subst hc'
       refine⟨x, ?_,hxr⟩
       have:=World.cell?_setCells_in b0 [x] 0 w (fun q hq=>by
        have:q=0:=by simpa using hq
        subst this
        rw[hoc'];rfl) 0 (by simp)
       simpa using this
     ·rw[World.frozen?_setCells];exact hbox0.nf o (by rw[h3];rw[h4]at ho;exact ho)
    have hI1:=hI.write (off:=0) (xs:=[x]) hg0 trivial hbox0.loc (hbox0.phi rfl) hB'
    refine⟨Φ,m,.tuples (by simpa using Rs.nil),hI1.congr fun s=> ?_,(Glob.start hI hbase).write hbox0.loc⟩
    simp only[incH,outH,List.append_nil,Go.Ab.hset,Site.eq_refl,cond_true]
  ·cases h
end
theorem cells1 {x:Value} (h:x.oneCell'=true):x.cells= #[x]:=by
 cases x<;>first|rfl|(simp[Value.oneCell']at h)
end Go.Ab
