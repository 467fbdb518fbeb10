/- A runner of the program's code on values without memory, and the proof that it is right: part 1. No condition. -/
import GoSem.Step
import Derived.Calls
import Derived.Laws.World
import Derived.Laws.Sem
import Derived.Laws.Cells
import Derived.Laws.Rows
import Derived.Laws.Slices
import Derived.Laws.Entries
import Derived.Laws.Strings
import Derived.Laws.StructEq
import Derived.ChangeKeysEq
namespace Go.Ab
open Go
inductive Site where
 |tmp (t:Nat)
 |inc (i:Nat)
 |out (i:Nat)
 |told (t i:Nat)
 |head (t i:Nat)
 deriving DecidableEq,Inhabited
def Site.eq:Site→Site→Bool
 | .tmp a,.tmp b=>Nat.beq a b
 | .inc a,.inc b=>Nat.beq a b
 | .out a,.out b=>Nat.beq a b
 | .told a i,.told b j=>Nat.beq a b&&Nat.beq i j
 | .head a i,.head b j=>Nat.beq a b&&Nat.beq i j
 |_,_=>false
def Site.isInc:Site→Bool
 | .inc _=>true
 |_=>false
inductive AV where
 |bool (b:Bool)
 |int (k:IntKind) (n:Int)
 |str (s:List UInt8)
 |nilp|nils|nilf|nili
 |iface (t:TypeId) (v:AV)
 |func (f:FuncId) (first cap:List AV)
 |agg (cs:List AV)
 |tuple (vs:List AV)
 |tree (xs:List AV)
 |cptr (v:AV)
 |ref (s:Site) (i o:Nat)
 |sref (s:Site) (lo len:Nat)
 |top
 |raw (x:Value)
 deriving Inhabited
inductive Blk where
 |box (v:AV) (wr:Bool)
 |row (esz:Nat) (xs:List AV) (wr room:Bool)
 |gone
 deriving Inhabited
abbrev Heap:=List (Site×Blk)
abbrev Temps:=List (Nat×AV)
structure St where
 T:Temps
 H:Heap
inductive Ex where
 |normal|exit (id:Nat)|ret
structure Res where
 v:AV
 back:List Blk
 out:List Blk
inductive DT (α:Type) where
 |ret (a:α)
 |fail (why:Nat)
 |node (c:Bool) (a b:DT α)
 |amb (a b:DT α)
 |elem (xs:List AV) (i:Nat) (k:AV→DT α)
 |byte (s:List UInt8) (i:Nat) (k:UInt8→DT α)
 |bytes (xs:List AV) (k:List UInt8→DT α)
 |fin (i:Int) (n:Nat) (k:Nat→DT α)
 |esz (xs:List AV) (e:Nat) (k:DT α)
 |call (f:FuncId) (args:List AV) (inc:List Blk) (k:Res→DT α)
 |meth (t:TypeId) (name:String) (k:FuncId→Bool→DT α)
 |ta (t asserted:TypeId) (k:Bool→DT α)
 |loop (body:Code) (live:List (Nat×Nat)) (s:St) (k:Ex→St→DT α)
inductive Sh where
 |struct|array (n:Nat) (e:TypeId)|slice (e:TypeId)|int (k:IntKind)|bool|string|pointer (e:TypeId)|iface|other
 deriving DecidableEq,Inhabited
structure TI where
 sz:Nat
 agg:Bool
 desc:Sh
 fields:List (Nat×TypeId)
 zero:Option AV
 bytes:Nat
 cmp:Bool
 deriving Inhabited
abbrev Tab:=List (Nat×TI)
def Tab.get:Tab→Nat→Option TI
 | [],_=>none
 |(a,x)::r,t=>bif Nat.beq a t then some x else Tab.get r t
inductive Plan where
 |stop|sil (i:Nat) (r:Plan)|eff (i:Nat) (r:Plan)|alt (p q:Plan)
structure Cfg where
 tab:Tab
 live:FuncId→Nat→List (Nat×Nat)
 opens:FuncId→Bool
 fresh:FuncId→Bool
 nilsz:FuncId→Nat
 plan:FuncId→Nat→Plan
 glob:Nat→Option AV
def tget:Temps→Nat→Option AV
 | [],_=>none
 |(a,v)::r,t=>bif Nat.beq a t then some v else tget r t
def hget:Heap→Site→Option Blk
 | [],_=>none
 |(a,b)::r,s=>bif Site.eq a s then some b else hget r s
def AV.cells:AV→List AV
 | .agg cs=>cs
 |v=>[v]
def ofLit:Value→Option AV
 | .bool b=>some (.bool b)
 | .int k n=>some (.int k n)
 | .string s=>some (.str s.data.toList)
 | .pointer none=>some .nilp
 | .slice none 0 0=>some .nils
 | .nilFunc=>some .nilf
 | .nilIface=>some .nili
 |_=>none
def ofLits:List Value→Option (List AV)
 | [] =>some []
 |v::r=>match ofLit v with
  |some x=>match ofLits r with
   |some xs=>some (x::xs)
   |none=>none
  |none=>none
def ofValue:Value→Option AV
 | .agg cs=>match ofLits cs.toList with
  |some l=>some (.agg l)
  |none=>none
 |v=>ofLit v
def opnd (s:St):Operand→Option AV
 | .tmp t=>tget s.T t
 | .const v=>ofValue v
 | .func f=>some (.func f [] [])
 | .global _=>none
def opnds (s:St):List Operand→Option (List AV)
 | [] =>some []
 |x::r=>match opnd s x with
  |some v=>match opnds s r with
   |some vs=>some (v::vs)
   |none=>none
  |none=>none
mutual
def AV.hasRef:AV→Bool
 | .agg cs=>AV.hasRefs cs
 | .tuple cs=>AV.hasRefs cs
 | .iface _ v=>AV.hasRef v
 | .func _ as cs=>AV.hasRefs as||AV.hasRefs cs
 | .ref .. =>true
 | .sref .. =>true
 | .nils=>true
 | .top=>true
 |_=>false
def AV.hasRefs:List AV→Bool
 | [] =>false
 |v::r=>AV.hasRef v||AV.hasRefs r
end
def AV.flat1:AV→Bool
 | .bool _=>true| .int _ _=>true| .str _=>true| .nilp=>true| .nili=>true| .nilf=>true| .raw _=>true
 | .iface _ (.bool _)=>true| .iface _ (.int _ _)=>true| .iface _ (.str _)=>true
 |_=>false
def AV.flats:List AV→Bool
 | [] =>true
 |v::r=>v.flat1&&AV.flats r
def AV.flat2:AV→Bool
 | .agg cs=>AV.flats cs
 | .iface _ (.agg cs)=>AV.flats cs
 |v=>v.flat1
def AV.flat2s:List AV→Bool
 | [] =>true
 |v::r=>v.flat2&&AV.flat2s r
def AV.flat:AV→Bool
 | .tuple vs=>AV.flat2s vs
 |v=>v.flat2
def isOneCell:AV→Bool
 | .agg _=>false
 | .tuple _=>false
 | .top=>false
 |_=>true
mutual
def closeV (H:Heap):Bool→Nat→List Site→AV→Option (AV×List Site)
 |_,0,_,_=>none
 |all,n+1,L,v=>bif AV.hasRef v then(match v with
  | .agg cs=>match closeVs H all n L cs with|some (l,L)=>some (.agg l,L)|none=>none
  | .tuple cs=>match closeVs H all n L cs with|some (l,L)=>some (.tuple l,L)|none=>none
  | .iface t v=>match closeV H all n L v with|some (l,L)=>some (.iface t l,L)|none=>none
  | .func f as cs=>match closeVs H all n L as with
   |some (as',L)=>match closeVs H all n L cs with|some (l,L)=>some (.func f as' l,L)|none=>none
   |none=>none
  | .nils=>some (.tree [],L)
  | .ref s i o=>bif !all&&s.isInc then some (.ref s i o,L)else
   match i,o,hget H s with
   | 0,0,some (.box v _)=>bif AV.hasRef v then(match v with
     | .agg cs=>match closeVs H true n (s::L) cs with|some (cs,L)=>some (.cptr (.agg cs),L)|none=>none
     |v=>match closeV H true n (s::L) v with|some (v',L)=>bif isOneCell v' then some (.cptr v',L)else none|none=>none)
    else some (.cptr v,s::L)
   |_,_,_=>none
  | .sref s lo len=>bif !all&&s.isInc then some (.sref s lo len,L)else
   match hget H s with
   |some (.row _ xs _ _)=>match lo with
    | 0=>some (.tree (xs.take len),s::L)
    |_=>none
   |_=>none
  |_=>none)else some (v,L)
def closeVs (H:Heap):Bool→Nat→List Site→List AV→Option (List AV×List Site)
 |_,0,_,_=>none
 |_,_+1,L,[] =>some ([],L)
 |all,n+1,L,v::r=>match closeV H all n L v with
  |some (v',L)=>match closeVs H all n L r with|some (r',L)=>some (v'::r',L)|none=>none
  |none=>none
end
def deep:Nat:=40
def memS (s:Site):List Site→Bool
 | [] =>false
 |a::r=>Site.eq a s||memS s r
mutual
def reach (H:Heap):Nat→List Site→AV→List Site
 | 0,acc,_=>acc
 |n+1,acc,v=>bif AV.hasRef v then(match v with
  | .agg cs=>reachs H n acc cs
  | .tuple cs=>reachs H n acc cs
  | .iface _ v=>reach H n acc v
  | .func _ as cs=>reachs H n (reachs H n acc as) cs
  | .ref s _ _=>bif memS s acc then acc else match hget H s with
   |some (.box v _)=>reach H n (acc++[s]) v
   |some (.row ..)=>acc++[s]
   |_=>acc
  | .sref s _ _=>bif memS s acc then acc else match hget H s with
   |some (.box ..)=>acc++[s]
   |some (.row ..)=>acc++[s]
   |_=>acc
  |_=>acc)else acc
def reachs (H:Heap):Nat→List Site→List AV→List Site
 | 0,acc,_=>acc
 |_+1,acc,[] =>acc
 |n+1,acc,v::r=>reachs H n (reach H n acc v) r
end
abbrev Ren:=List (Site×Site)
def Ren.get:Ren→Site→Option Site
 | [],_=>none
 |(a,c)::r,s=>bif Site.eq a s then some c else Ren.get r s
mutual
def renV (ρ:Ren):Nat→AV→AV
 | 0,_=> .top
 |n+1,v=>bif AV.hasRef v then(match v with
  | .agg cs=> .agg (renVs ρ n cs)
  | .tuple cs=> .tuple (renVs ρ n cs)
  | .iface t v=> .iface t (renV ρ n v)
  | .func f as cs=> .func f (renVs ρ n as) (renVs ρ n cs)
  | .ref s i o=>match ρ.get s with|some s'=> .ref s' i o|none=> .top
  | .sref s i o=>match ρ.get s with|some s'=> .sref s' i o|none=> .top
  | .nils=> .nils
  |_=> .top)else v
def renVs (ρ:Ren):Nat→List AV→List AV
 | 0,l=>l.map fun _=> .top
 |_+1,[] => []
 |n+1,v::r=>renV ρ n v::renVs ρ n r
end
def renB (ρ:Ren):Blk→Blk
 | .box v wr=> .box (renV ρ deep v) wr
 |b=>b
section
variable {β:Type}
mutual
def frc (v:AV) (k:AV→β):β:=
 bif AV.hasRef v then(match v with
  | .agg cs=>frcs cs fun cs=>k (.agg cs)
  | .tuple cs=>frcs cs fun cs=>k (.tuple cs)
  | .iface t v=>frc v fun v=>k (.iface t v)
  | .func f as cs=>frcs as fun as=>frcs cs fun cs=>k (.func f as cs)
  | .ref s i o=>k (.ref s i o)
  | .sref s i o=>k (.sref s i o)
  | .nils=>k .nils
  | .top=>k .top
  |v=>k v)else(match v with
  | .agg _=>k v
  | .tuple cs=>frcs cs fun cs=>k (.tuple cs)
  | .tree xs=>k (.tree xs)
  | .cptr v=>k (.cptr v)
  | .int i n=>k (.int i n)
  | .bool b=>k (.bool b)
  | .str b=>k (.str b)
  | .iface t v=>k (.iface t v)
  |v=>k v)
termination_by structural v
def frcs (vs:List AV) (k:List AV→β):β:=
 match vs with
 | [] =>k []
 |v::r=>frc v fun v=>frcs r fun r=>k (v::r)
termination_by structural vs
end
def spine (l:List AV) (k:List AV→β):β:=
 match l with
 | [] =>k []
 |v::r=>spine r fun r=>k (v::r)
def frcB (b:Blk) (k:Blk→β):β:=
 match b with
 | .box v wr=>frc v fun v=>k (.box v wr)
 | .row e xs wr rm=>k (.row e xs wr rm)
 | .gone=>k .gone
def frcBs (l:List Blk) (k:List Blk→β):β:=
 match l with
 | [] =>k []
 |b::r=>frcB b fun b=>frcBs r fun r=>k (b::r)
def frcH (H:Heap) (k:Heap→β):β:=
 match H with
 | [] =>k []
 |(a,b)::r=>frcB b fun b=>frcH r fun r=>k ((a,b)::r)
def frcS (l:List Site) (k:List Site→β):β:=
 match l with
 | [] =>k []
 | .tmp t::r=>frcS r fun r=>k (.tmp t::r)
 | .inc t::r=>frcS r fun r=>k (.inc t::r)
 | .out t::r=>frcS r fun r=>k (.out t::r)
 | .told t i::r=>frcS r fun r=>k (.told t i::r)
 | .head t i::r=>frcS r fun r=>k (.head t i::r)
end
inductive Fx where
 |alloc (s:Site) (b:Blk)
 |setBox (s:Site) (o:Nat) (cs:List AV)
 |setVar (s:Site) (n:Nat) (v:AV)
 |setRow (s:Site) (i:Nat) (v:AV)
 |setBlk (s:Site) (b:Blk)
 |drop (s:Site)
 |frz (s:Site)
 |step
abbrev Acc:=List (Site×Option (Nat×Nat))
structure Script where
 v:AV
 fx:List Fx
 rd:Acc
def setCells:List AV→Nat→List AV→List AV
 | [],_,_=> []
 |c::r,0,[] =>c::r
 |_::r,0,d::ds=>d::setCells r 0 ds
 |c::r,n+1,ds=>c::setCells r n ds
def setPart (v:AV) (o:Nat) (cs:List AV):AV:=
 match v with
 | .agg l=> .agg (setCells l o cs)
 |_=>match cs with
  | [c]=>c
  |_=>v
def hset:Heap→Site→Blk→Heap
 | [],_,_=> []
 |(a,b)::r,s,c=>bif Site.eq a s then(a,c)::r else(a,b)::hset r s c
def Fx.app (H:Heap):Fx→Heap
 | .alloc s b=>(s,b)::H
 | .setBox s o cs=>match hget H s with
  |some (.box v wr)=>hset H s (.box (setPart v o cs) wr)
  |_=>H
 | .setVar s _ v=>match hget H s with
  |some (.box _ wr)=>hset H s (.box v wr)
  |_=>H
 | .setRow s i v=>match hget H s with
  |some (.row e xs wr rm)=>hset H s (.row e (xs.set i v) wr rm)
  |_=>H
 | .setBlk s b=>hset H s b
 | .drop s=>hset H s .gone
 | .frz s=>match hget H s with
  |some (.row e xs _ rm)=>hset H s (.row e xs false rm)
  |some (.box v _)=>hset H s (.box v false)
  |_=>H
 | .step=>H
def fxApp (H:Heap):List Fx→Heap
 | [] =>H
 |f::r=>fxApp (f.app H) r
section
variable {β:Type}
def hsetK (H:Heap) (s:Site) (c:Blk) (k:Heap→β):β:=
 match H with
 | [] =>k []
 |(a,b)::r=>bif Site.eq a s then k ((a,c)::r)else hsetK r s c fun r=>k ((a,b)::r)
def Fx.appK (H:Heap) (f:Fx) (k:Heap→β):β:=
 match f with
 | .alloc s b=>k ((s,b)::H)
 | .setBox s o cs=>match hget H s with
  |some (.box v wr)=>match v with
   | .agg l=>spine (setCells l o cs) fun l=>hsetK H s (.box (.agg l) wr) k
   |v=>match cs with
    | [c]=>hsetK H s (.box c wr) k
    |_=>hsetK H s (.box v wr) k
  |_=>k H
 | .setVar s _ v=>match hget H s with
  |some (.box _ wr)=>hsetK H s (.box v wr) k
  |_=>k H
 | .setRow s i v=>match hget H s with
  |some (.row e xs wr rm)=>hsetK H s (.row e (xs.set i v) wr rm) k
  |_=>k H
 | .setBlk s b=>hsetK H s b k
 | .drop s=>hsetK H s .gone k
 | .frz s=>match hget H s with
  |some (.row e xs _ rm)=>hsetK H s (.row e xs false rm) k
  |some (.box v _)=>hsetK H s (.box v false) k
  |_=>k H
 | .step=>k H
def fxAppK (H:Heap) (fx:List Fx) (k:Heap→β):β:=
 match fx with
 | [] =>k H
 |f::r=>f.appK H fun H=>fxAppK H r k
end
def rdAll:List Site→Acc
 | [] => []
 |a::r=>(a,none)::rdAll r
def frzAll:List Site→List Fx
 | [] => []
 |a::r=> .frz a::frzAll r
section
variable {α:Type} (cfg:Cfg)
def pure1 (v:AV) (k:Script→DT α):DT α:=k ⟨v,[],[]⟩
def partD (t:TypeId) (v:AV) (o:Nat) (k:AV→DT α):DT α:=
 match cfg.tab.get t with
 |some ti=>
  bif ti.agg then
   (bif Nat.beq o 0&&Nat.beq ti.sz v.cells.length then
     (match v with| .agg _=>k v|_=> .fail 1)
    else(bif Nat.ble (o+ti.sz) v.cells.length then spine ((v.cells.drop o).take ti.sz) fun cs=>k (.agg cs)else .fail 2))
  else(match v.cells.drop o with|c::_=>bif isOneCell c then k c else .fail 18 | [] => .fail 3)
 |none=> .fail 4
def loadD (s:St) (t:TypeId) (p:AV) (k:Script→DT α):DT α:=
 match p with
 | .cptr v=>partD cfg t v 0 fun x=>k ⟨x,[],[]⟩
 | .ref st i o=>match hget s.H st with
  |some (.box v _)=>match i with
   | 0=>partD cfg t v o fun x=>k ⟨x,[],[(st,some (o,x.cells.length))]⟩
   |_=> .fail 5
  |some (.row _ xs _ _)=> .elem xs i fun v=>partD cfg t v o fun x=>k ⟨x,[],[(st,none)]⟩
  |_=> .fail 6
 |_=> .fail 7
def allOneCell:List AV→Bool
 | [] =>true
 |v::r=>isOneCell v&&allOneCell r
def storeD (s:St) (t:TypeId) (p x:AV) (k:Script→DT α):DT α:=
 match cfg.tab.get t with
 |some ti=>
  bif Nat.beq x.cells.length ti.sz&&allOneCell x.cells then
   match p with
   | .ref st i o=>match hget s.H st with
    |some (.box v wr)=>match i with
     | 0=>bif !wr then .fail 17 else bif Nat.beq o 0&&Nat.beq ti.sz v.cells.length then k ⟨.tuple [],[.setVar st ti.sz x],[]⟩
      else(bif Nat.ble (o+ti.sz) v.cells.length then k ⟨.tuple [],[.setBox st o x.cells],[]⟩else .fail 8)
     |_=> .fail 9
    |some (.row _ xs wr _)=>bif wr then
      (match closeV s.H true deep [] x with
       |some (x',L)=>bif memS st L then .fail 23 else .elem xs i fun v=>
        bif Nat.beq o 0&&Nat.beq ti.sz v.cells.length then k ⟨.tuple [],frzAll L++[.setRow st i x'],rdAll L⟩
        else(bif Nat.ble (o+ti.sz) v.cells.length then
         spine (setCells v.cells o x'.cells) fun cs=>k ⟨.tuple [],frzAll L++[.setRow st i (.agg cs)],rdAll L⟩else .fail 10)
       |none=> .fail 11)
     else .fail 12
    |_=> .fail 13
   |_=> .fail 14
  else .fail 15
 |none=> .fail 16
def viewD (s:St) (sz:Nat) (x:AV) (k:List AV→Acc→DT α):DT α:=
 match x with
 | .tree xs=> .esz xs sz (k xs [])
 | .nils=>k [] []
 | .sref st lo len=>match hget s.H st with
  |some (.row e xs _ _)=>bif Nat.beq e sz||Nat.beq e 0 then
    (match lo with
     | 0=>k (xs.take len) [(st,none)]
     |_=>k ((xs.drop lo).take len) [(st,none)])
   else .fail 19
  |_=> .fail 20
 | .str b=>bif Nat.beq sz 1 then k (b.map fun c=> .int .u8 c.toNat) [] else .fail 22
 |_=> .fail 21
def lenOf (d:Sh) (x:AV):Option Nat:=
 match d,x with
 | .slice _,.tree xs=>some xs.length
 | .slice _,.nils=>some 0
 | .slice _,.sref _ _ len=>some len
 | .string,.str b=>some b.length
 |_,_=>none
def eqFs (cfg:Cfg) (f:TypeId→List AV→List AV→Option Bool) (xs ys:List AV):List (Nat×TypeId)→Option Bool
 | [] =>some true
 |(o,t)::r=>match cfg.tab.get t with
  |some ti=>bif Nat.ble (o+ti.sz) xs.length&&Nat.ble (o+ti.sz) ys.length then
   (match f t ((xs.drop o).take ti.sz) ((ys.drop o).take ti.sz)with
    |some c=>(match eqFs cfg f xs ys r with|some d=>some (c&&d)|none=>none)
    |none=>none)
   else none
  |none=>none
def eqT (cfg:Cfg):Nat→TypeId→List AV→List AV→Option Bool
 | 0,_,_,_=>none
 |n+1,t,xs,ys=>match cfg.tab.get t with
  |some ti=>match ti.desc with
   | .struct=>bif ti.cmp then eqFs cfg (eqT cfg n) xs ys ti.fields else none
   | .array l _=>bif ti.cmp&&Nat.beq ti.fields.length l then eqFs cfg (eqT cfg n) xs ys ti.fields else none
   | .int _=>(match xs,ys with
    | [.int k a],[.int l b]=>bif decide (k=l)then some (decide (a=b))else none
    |_,_=>none)
   | .bool=>(match xs,ys with
    | [.bool a],[.bool b]=>some (decide (a=b))
    |_,_=>none)
   | .string=>(match xs,ys with
    | [.str a],[.str b]=>some (decide (a=b))
    |_,_=>none)
   |_=>none
  |none=>none
def eqI (cfg:Cfg) (t:TypeId) (v w:AV):Option Bool:=
 match cfg.tab.get t with
 |some ti=>bif ti.cmp then(bif ti.agg then(match v,w with
   | .agg xs,.agg ys=>eqT cfg 8 t xs ys
   |_,_=>none)
  else(bif isOneCell v&&isOneCell w then eqT cfg 8 t [v] [w]else none))else none
 |none=>none
def eqD (draw cx cy:Bool) (x y:AV) (k:Bool→DT α):DT α:=
 match x,y with
 | .bool a,.bool b=>k (decide (a=b))
 | .str a,.str b=>k (decide (a=b))
 | .nili,.nili=>bif cx||cy then k true else .fail 29
 | .iface _ _,.nili=>k false
 | .nili,.iface _ _=>k false
 | .iface t v,.iface u w=>bif Nat.beq t u then(match eqI cfg t v w with|some c=>k c|none=> .fail 30)else k false
 | .nilf,.nilf=>k true
 | .func _ _ _,.nilf=>k false
 | .nilp,.nilp=>k true
 | .cptr _,.nilp=>k false
 | .nilp,.cptr _=>k false
 | .ref _ _ _,.nilp=>k false
 | .nilp,.ref _ _ _=>k false
 | .tree xs,.nils=>bif draw|| !cy then .fail 31 else .node xs.isEmpty (.amb (k true) (k false)) (k false)
 | .sref _ _ len,.nils=>bif draw|| !cy then .fail 31 else .node (Nat.beq len 0) (.amb (k true) (k false)) (k false)
 | .nils,.nils=>bif draw|| !cy then .fail 31 else .amb (k true) (k false)
 |_,_=> .fail 32
def kindOf (t:TypeId):Option IntKind:=
 match cfg.tab.get t with
 |some { desc:= .int k,.. } =>some k
 |_=>none
def eqShape (t:TypeId) (x:AV):Bool:=
 match cfg.tab.get t with
 |some ti=>match ti.desc,x with
  | .bool,.bool _=>true
  | .iface,.nili=>true
  | .iface,.iface _ _=>true
  | .pointer _,.nilp=>true
  | .pointer _,.cptr _=>true
  | .pointer _,.ref _ _ _=>true
  | .slice _,.tree _=>true
  | .slice _,.nils=>true
  | .slice _,.sref _ _ _=>true
  |_,_=>false
 |none=>false
def isConst:Operand→Bool
 | .const _=>true
 |_=>false
def intD (op:BinOp) (k:IntKind) (a b:Int) (q:AV→DT α):DT α:=
 match op with
 | .add=>q (.int k (k.wrap (a+b)))
 | .sub=>q (.int k (k.wrap (a-b)))
 | .mul=>q (.int k (k.wrap (a*b)))
 | .quo=> .node (decide (b≠0)) (q (.int k (k.wrap (a.tdiv b)))) (.fail 33)
 | .rem=> .node (decide (b≠0)) (q (.int k (a.tmod b))) (.fail 33)
 | .and=>q (.int k (k.wrap (BitVec.ofInt k.bits a &&& BitVec.ofInt k.bits b).toNat))
 | .or=>q (.int k (k.wrap (BitVec.ofInt k.bits a ||| BitVec.ofInt k.bits b).toNat))
 | .xor=>q (.int k (k.wrap (BitVec.ofInt k.bits a ^^^ BitVec.ofInt k.bits b).toNat))
 | .andNot=>q (.int k (k.wrap (BitVec.ofInt k.bits a &&& ~~~ (BitVec.ofInt k.bits b)).toNat))
 | .eql=>q (.bool (decide (a=b)))
 | .neq=>q (.bool (!decide (a=b)))
 | .lss=>q (.bool (decide (a<b)))
 | .leq=>q (.bool (decide (a≤b)))
 | .gtr=>q (.bool (decide (b<a)))
 | .geq=>q (.bool (decide (b≤a)))
 |_=> .fail 34
def bytesLt:List UInt8→List UInt8→Bool
 |_,[] =>false
 | [],_::_=>true
 |a::x,b::y=>a<b||(a==b&&bytesLt x y)
def binD (draw cx cy:Bool) (t:TypeId) (op:BinOp) (x y:AV) (q:AV→DT α):DT α:=
 match x,y with
 | .int k a,.int k' b=>match op with
  | .shl=> .node (decide (0≤b)) (q (.int k (k.wrap (a*2 ^ (min b.toNat k.bits))))) (.fail 35)
  | .shr=> .node (decide (0≤b)) (q (.int k (a.fdiv (2 ^ (min b.toNat k.bits))))) (.fail 35)
  |_=>bif decide (k=k')then intD op k a b q else .fail 36
 | .str a,.str b=>match op with
  | .add=> .node (decide (a.length+b.length<9223372036854775808)) (q (.str (a++b))) (.fail 37)
  | .eql=>q (.bool (decide (a=b)))
  | .neq=>q (.bool (!decide (a=b)))
  | .lss=>q (.bool (bytesLt a b))
  | .leq=>q (.bool (bytesLt a b||decide (a=b)))
  | .gtr=>q (.bool (!(bytesLt a b||decide (a=b))))
  | .geq=>q (.bool (!bytesLt a b))
  |_=> .fail 38
 | .agg xs,.agg ys=>match cfg.tab.get t with
  |some { desc:= .struct,.. } =>(match op with
   | .eql=>(match eqT cfg 8 t xs ys with|some c=>q (.bool c)|none=> .fail 26)
   | .neq=>(match eqT cfg 8 t xs ys with|some c=>q (.bool (!c))|none=> .fail 27)
   |_=> .fail 25)
  |some { desc:= .array _ _,.. } =>(match op with
   | .eql=>(match eqT cfg 8 t xs ys with|some c=>q (.bool c)|none=> .fail 26)
   | .neq=>(match eqT cfg 8 t xs ys with|some c=>q (.bool (!c))|none=> .fail 27)
   |_=> .fail 25)
  |_=> .fail 24
 |_,_=>match op with
  | .eql=>bif eqShape cfg t x then eqD cfg draw cx cy x y fun c=>q (.bool c)else .fail 28
  | .neq=>bif eqShape cfg t x then eqD cfg draw cx cy x y fun c=>q (.bool (!c))else .fail 28
  |_=> .fail 39
def boundD (x:Option AV) (most:Nat) (dflt:Nat) (k:Nat→DT α):DT α:=
 match x with
 |none=>k dflt
 |some (.int _ i)=> .node (decide (0≤i∧i≤most)) (k i.toNat) (.fail 40)
 |some _=> .fail 41
def sliceD (t:TypeId) (x:AV) (lo hi:Option AV) (k:AV→DT α):DT α:=
 match cfg.tab.get t with
 |some { desc:= .slice e,.. } =>match cfg.tab.get e with
  |some te=>match x with
   | .tree xs=>match lo with
    |none=>boundD hi xs.length xs.length fun h=>k (.tree (xs.take h))
    |some _=> .esz xs te.sz (match hi with
     |none=>boundD lo xs.length 0 fun l=>k (.tree (xs.drop l))
     |some _=>boundD hi xs.length xs.length fun h=>boundD lo h 0 fun l=>k (.tree ((xs.take h).drop l)))
   | .nils=>boundD hi 0 0 fun h=>boundD lo h 0 fun _=>k .nils
   | .sref s b len=>match lo with
    |none=>boundD hi len len fun h=>k (.sref s b h)
    |some _=> .fail 45
   |_=> .fail 42
  |none=> .fail 46
 |some { desc:= .string,.. } =>match x with
  | .str bs=>match lo with
   |none=>boundD hi bs.length bs.length fun h=>k (.str (bs.take h))
   |some _=>match hi with
    |none=>boundD lo bs.length 0 fun l=>k (.str (bs.drop l))
    |some _=>boundD hi bs.length bs.length fun h=>boundD lo h 0 fun l=>k (.str ((bs.take h).drop l))
  |_=> .fail 47
 |_=> .fail 44
def roomMost:Nat:=140737488355328
def noSite (H:Heap) (s:Site) (k:DT α):DT α:=
 match hget H s with
 |none=>k
 |some _=> .fail 43
def zeroFits (te:TI):Bool:=
 match te.zero with
 |some z=>Nat.beq z.cells.length te.sz
 |none=>false
def appendD (s:St) (dst:Nat) (t:TypeId) (x y:AV) (k:Script→DT α):DT α:=
 match cfg.tab.get t with
 |some { desc:= .slice e,.. } =>match cfg.tab.get e with
  |some te=>bif Nat.blt 0 te.sz&&Nat.blt 0 te.bytes&&zeroFits te then viewD s te.sz y fun ys rd=>
   match x with
   | .nils=> .node (decide (ys.length*te.bytes≤roomMost))
    (noSite s.H (.tmp dst) (k ⟨.sref (.tmp dst) 0 ys.length,[.alloc (.tmp dst) (.row te.sz ys true true)],rd⟩)) (.fail 50)
   | .sref st lo len=>match hget s.H st with
    |some (.row e xs wr rm)=>bif rm&&(Nat.beq e te.sz||Nat.beq e 0)then
      .node (decide ((len+ys.length)*te.bytes≤roomMost))
       (match lo with
        | 0=> .node (decide (len=xs.length))
         (noSite s.H (.tmp dst) (k ⟨.sref (.tmp dst) 0 (len+ys.length),[.drop st,.alloc (.tmp dst) (.row te.sz (xs++ys) wr true)],(st,none)::rd⟩))
         (.node (wr&&decide (len≤xs.length))
           (noSite s.H (.tmp dst) (k ⟨.sref (.tmp dst) 0 (len+ys.length),[.drop st,.alloc (.tmp dst) (.row te.sz (xs.take len++ys) wr true)],(st,none)::rd⟩)) (.fail 51))
        |_=> .fail 58) (.fail 52)
     else .fail 53
    |_=> .fail 54
   |_=> .fail 55
   else .fail 59
  |none=> .fail 56
 |_=> .fail 57
def fillD:List AV→List (Nat×TypeId)→List (Nat×AV)→Option (List AV)
 |cs,_,[] =>some cs
 |cs,fs,(i,v)::r=>match fs[i]? with
  |some (o,t)=>match cfg.tab.get t with
   |some fi=>bif Nat.beq v.cells.length fi.sz&&Nat.ble (o+fi.sz) cs.length&&allOneCell v.cells then fillD (setCells cs o v.cells) fs r else none
   |none=>none
  |none=>none
def parts (s:St):List (Nat×Operand)→Option (List (Nat×AV))
 | [] =>some []
 |(i,x)::r=>match opnd s x with
  |some v=>match parts s r with|some l=>some ((i,v)::l)|none=>none
  |none=>none
def renInc:List Site→Nat→Ren
 | [],_=> []
 |p::r,i=>(p,.inc i)::renInc r (i+1)
def renOut:List Site→Nat→Ren
 | [],_=> []
 |p::r,i=>(p,.out i)::renOut r (i+1)
def blksOf (H:Heap):List Site→Option (List Blk)
 | [] =>some []
 |a::r=>match hget H a with
  |some b=>match blksOf H r with|some l=>some (b::l)|none=>none
  |none=>none
def renBs (ρ:Ren):List Blk→List Blk
 | [] => []
 |b::r=>renB ρ b::renBs ρ r
def renBack:List Site→Nat→Ren
 | [],_=> []
 |p::r,i=>(.inc i,p)::renBack r (i+1)
def renTold (dst:Nat):List Blk→Nat→Ren
 | [],_=> []
 |_::r,i=>(.out i,.told dst i)::renTold dst r (i+1)
def fxBack:List Site→List Blk→List Fx
 |a::r,b::q=> .setBlk a b::fxBack r q
 |_,_=> []
def fxTold (dst:Nat):List Blk→Nat→List Fx
 | [],_=> []
 |b::r,i=> .alloc (.told dst i) b::fxTold dst r (i+1)
def noTold (H:Heap) (dst:Nat):List Blk→Nat→DT α→DT α
 | [],_,k=>k
 |_::r,i,k=>noSite H (.told dst i) (noTold H dst r (i+1) k)
def fstIn (s:Site):Ren→Bool
 | [] =>false
 |(a,_)::r=>Site.eq a s||fstIn s r
def sndIn (s:Site):Ren→Bool
 | [] =>false
 |(_,a)::r=>Site.eq a s||sndIn s r
def renOk:Ren→Bool
 | [] =>true
 |(a,b)::r=> !fstIn a r&& !sndIn b r&&renOk r
def isLive (H:Heap) (s:Site):Bool:=
 match hget H s with
 |some .gone=>false
 |some _=>true
 |none=>false
def hitsLive (H:Heap):List Site→Bool
 | [] =>true
 |s::r=>isLive H s&&hitsLive H r
def callOk (H:Heap) (L:List Site):Bool:=hitsLive H L&&renOk (renInc L 0)
def callD (s:St) (dst:Nat) (opn:Bool) (go:List AV→List Blk→(Res→DT α)→DT α) (args:List AV) (k:Script→DT α):DT α:=
 bif opn then
  frcS (reachs s.H deep [] args) fun L=>
  bif callOk s.H L then
  match blksOf s.H L with
  |some bs=>frcs (renVs (renInc L 0) deep args) fun args'=>frcBs (renBs (renInc L 0) bs) fun bs=>
   go args' bs fun r=>match r with
    |⟨v,bk,ou⟩=>bif Nat.beq bk.length L.length&&renOk (renBack L 0++renTold dst ou 0)then
        noTold s.H dst ou 0 (frc (renV (renBack L 0++renTold dst ou 0) deep v) fun v=>
         frcBs (renBs (renBack L 0++renTold dst ou 0) bk) fun bk=>frcBs (renBs (renBack L 0++renTold dst ou 0) ou) fun ou=>
         k ⟨v,.step::(fxBack L bk++fxTold dst ou 0),rdAll L⟩)
     else .fail 60
  |none=> .fail 61
  else .fail 64
 else
  match closeVs s.H true deep [] args with
  |some (args',L)=>frcs args' fun args'=>go args' [] fun r=>match r with
   |⟨v,[],ou⟩=>bif v.flat then k ⟨v,[.step],rdAll L⟩
      else bif renOk (renTold dst ou 0)then
       noTold s.H dst ou 0 (frc (renV (renTold dst ou 0) deep v) fun v=>frcBs (renBs (renTold dst ou 0) ou) fun ou=>
        k ⟨v,.step::(frzAll L++fxTold dst ou 0),rdAll L⟩)
      else .fail 65
   |_=> .fail 62
  |none=> .fail 63
def minInt:Int→List AV→Option Int
 |a,[] =>some a
 |a,.int _ b::r=>minInt (if b<a then b else a) r
 |_,_=>none
def maxInt:Int→List AV→Option Int
 |a,[] =>some a
 |a,.int _ b::r=>maxInt (if b>a then b else a) r
 |_,_=>none
def inOrder:Nat→List (Nat×AV)→Option (List AV)
 |_,[] =>some []
 |n,(i,v)::r=>bif Nat.beq i n then(match inOrder (n+1) r with|some l=>some (v::l)|none=>none)else none
def builtinD (s:St) (dst:Option Nat) (b:Builtin) (ats:List TypeId) (args:List AV) (k:Script→DT α):DT α:=
 match b,args with
 | .len,[x]=>match ats with
  |t::_=>match cfg.tab.get t with
   |some ti=>match lenOf ti.desc x with
    |some n=>pure1 (.int .i64 n) k
    |none=> .fail 70
   |none=> .fail 75
  | [] => .fail 76
 | .append,[x,y]=>match ats,dst with
  | [t,t2],some d=>match cfg.tab.get t2 with
   |some { desc:= .slice _,.. } =>appendD cfg s d t x y k
   |some { desc:= .string,.. } =>appendD cfg s d t x y k
   |_=> .fail 77
  |_,_=> .fail 71
 | .min,.int kd a::r=>match minInt a r with|some m=>pure1 (.int kd m) k|none=> .fail 72
 | .max,.int kd a::r=>match maxInt a r with|some m=>pure1 (.int kd m) k|none=> .fail 73
 |_,_=> .fail 74
def convertD (s:St) (dst:Option Nat) (src d:TypeId) (x:AV) (k:Script→DT α):DT α:=
 match cfg.tab.get src with
 |none=> .fail 85
 |some ts=>match x with
  | .int _ n=>match kindOf cfg d with
   |some kd=>pure1 (.int kd (kd.wrap n)) k
   |none=> .fail 80
  | .str bs=>match ts.desc with
   | .string=>match cfg.tab.get d with
    |some { desc:= .string,.. } =>pure1 (.str bs) k
    |some { desc:= .slice e,.. } =>bif decide (kindOf cfg e=some .u8)then
      (match dst with
       |some dst=>noSite s.H (.tmp dst) (k ⟨.sref (.tmp dst) 0 bs.length,[.alloc (.tmp dst) (.row 1 (bs.map fun c=> .int .u8 c.toNat) true true)],[]⟩)
       |none=> .fail 84)
     else .fail 81
    |_=> .fail 82
   |_=> .fail 86
  |_=>match ts.desc with
   | .slice e=>bif decide (kindOf cfg e=some .u8)then
     (match cfg.tab.get d with
     |some { desc:= .string,.. } =>viewD s 1 x fun xs rd=> .bytes xs fun bs=>k ⟨.str bs,[],rd⟩
     |_=> .fail 83)
    else .fail 87
   |_=> .fail 88
def fieldOf (t:TypeId) (f:Nat):Option (Nat×TypeId):=
 match cfg.tab.get t with
 |some ti=>ti.fields[f]?
 |none=>none
def hasCells (t:TypeId):Bool:=
 match cfg.tab.get t with
 |some ti=>Nat.blt 0 ti.sz
 |none=>false
def allCells (n:Nat):List AV→Bool
 | [] =>true
 |v::r=>Nat.beq v.cells.length n&&allOneCell v.cells&&allCells n r
def allocD (s:St) (dst:Option Nat) (b:Blk) (v:Site→AV) (rd:Acc) (k:Script→DT α):DT α:=
 match dst with
 |some d=>noSite s.H (.tmp d) (k ⟨v (.tmp d),[.alloc (.tmp d) b],rd⟩)
 |none=> .fail 90
def gopnd (s:St) (x:Operand):Option AV:=
 match x with
 | .global g=>(match cfg.glob g with|some v=>some (.cptr v)|none=>none)
 |x=>opnd s x
def opR (draw:Bool) (s:St) (o:Oper) (k:Script→DT α):DT α:=
 match o.op with
 | .move x=>match opnd s x with|some v=>pure1 v k|none=> .fail 100
 | .assign x=>match opnd s x with|some v=>pure1 v k|none=> .fail 100
 | .pick c a b=>match opnd s c with
  |some (.bool c)=> .node c (match opnd s a with|some v=>pure1 v k|none=> .fail 101) (match opnd s b with|some v=>pure1 v k|none=> .fail 102)
  |_=> .fail 103
 | .alloc t=>match cfg.tab.get t with
  |some { zero:=some z,.. } =>allocD s o.dst (.box z true) (fun st=> .ref st 0 0) [] k
  |_=> .fail 104
 | .box _ x=>match opnd s x with
  |some v=>bif allOneCell v.cells then allocD s o.dst (.box v true) (fun st=> .ref st 0 0) [] k else .fail 105
  |none=> .fail 106
 | .build t ps=>match cfg.tab.get t,parts s ps.toList with
  |some ti,some l=>match ti.agg,ti.zero with
   |true,some z=>match fillD cfg z.cells ti.fields l with
    |some cs=>spine cs fun cs=>pure1 (.agg cs) k
    |none=> .fail 107
   |_,_=> .fail 108
  |_,_=> .fail 109
 | .buildSlice t len ps=>match cfg.tab.get t,parts s ps.toList with
  |some { desc:= .slice e,.. },some l=>match cfg.tab.get e with
   |some te=>match inOrder 0 l with
    |some xs=>bif Nat.beq xs.length len&&Nat.blt 0 te.sz&&allCells te.sz xs&&Nat.ble (len*te.sz) 16777216&&te.zero.isSome then
      (match closeVs s.H true deep [] xs with
       |some (xs',L)=>spine xs' fun xs'=>match o.dst with
        |some d=>noSite s.H (.tmp d) (k ⟨.sref (.tmp d) 0 len,frzAll L++[.alloc (.tmp d) (.row te.sz xs' true true)],rdAll L⟩)
        |none=> .fail 90
       |none=> .fail 110)
     else .fail 111
    |none=> .fail 112
   |none=> .fail 113
  |_,_=> .fail 114
 | .load t a=>match gopnd cfg s a with|some p=>loadD cfg s t p k|none=> .fail 115
 | .store t a x=>match opnd s a,opnd s x with|some p,some v=>storeD cfg s t p v k|_,_=> .fail 116
 | .nilCheck x=>match opnd s x with
  |some .nilp=> .fail 117 |some .nili=> .fail 118 |some .nilf=> .fail 119 |some .top=> .fail 120 |some (.raw _)=> .fail 120
  |some v=>pure1 v k
  |none=> .fail 121
 | .binOp op t x y _=>match opnd s x,opnd s y with
  |some a,some b=>binD cfg draw (isConst x) (isConst y) t op a b fun v=>pure1 v k
  |_,_=> .fail 122
 | .unOp op _ x=>match op,opnd s x with
  | .not,some (.bool b)=>pure1 (.bool (!b)) k
  | .neg,some (.int kd n)=>pure1 (.int kd (kd.wrap (0-n))) k
  |_,_=> .fail 123
 | .convert src d x=>match opnd s x with|some v=>convertD cfg s o.dst src d v k|none=> .fail 124
 | .makeInterface t x=>match opnd s x with
  |some v=>match cfg.tab.get t with
   |some ti=>match ti.desc with
    | .iface=> .fail 125
    |_=>bif isOneCell v||allOneCell v.cells then pure1 (.iface t v) k else .fail 125
   |none=> .fail 126
  |none=> .fail 126
 | .makeFunc (.func f) as cs=>match opnds s as.toList,opnds s cs.toList with
  |some as,some cs=>pure1 (.func f as cs) k
  |_,_=> .fail 127
 | .makeSlice t l c=>match cfg.tab.get t,opnd s l,opnd s c with
  |some { desc:= .slice e,.. },some (.int _ n),some (.int _ m)=>match cfg.tab.get e with
   |some te=>match te.zero with
    |some z=>bif !(Nat.blt 0 te.sz&&Nat.beq z.cells.length te.sz&&allOneCell z.cells)then .fail 159 else .node (decide (0≤n∧n≤m∧m≤roomMost∧m*te.bytes≤roomMost))
     (allocD s o.dst (.row te.sz (List.replicate n.toNat z) true true) (fun st=> .sref st 0 n.toNat) [] k) (.fail 128)
    |none=> .fail 129
   |none=> .fail 130
  |_,_,_=> .fail 131
 | .slice t x lo hi mx=>match mx with
  |none=>match opnd s x,(match lo with|some y=>(match opnd s y with|some v=>some (some v)|none=>none)|none=>some none),(match hi with|some y=>(match opnd s y with|some v=>some (some v)|none=>none)|none=>some none)with
   |some v,some l,some h=>sliceD cfg t v l h fun v=>pure1 v k
   |_,_,_=> .fail 132
  |some _=> .fail 133
 | .fieldAddr t x f=>match cfg.tab.get t with
  |some ti=>match ti.desc with
   | .struct=>match fieldOf cfg t f,opnd s x with
    |some (off,ft),some (.ref a i o)=>bif hasCells cfg ft then pure1 (.ref a i (o+off)) k else .fail 180
    |some (off,ft),some (.cptr v)=>bif hasCells cfg ft then partD cfg ft v off fun x=>pure1 (.cptr x) k else .fail 180
    |_,_=> .fail 134
   |_=> .fail 181
  |none=> .fail 182
 | .field t x f=>match cfg.tab.get t with
  |some ti=>match ti.desc with
   | .struct=>match fieldOf cfg t f,opnd s x with
    |some (off,ft),some (.agg cs)=>partD cfg ft (.agg cs) off fun x=>pure1 x k
    |_,_=> .fail 135
   |_=> .fail 181
  |none=> .fail 182
 | .indexAddr t x ix=>match opnd s x,opnd s ix with
  |some v,some (.int _ i)=>match cfg.tab.get t with
   |some { desc:= .slice et,.. } =>match cfg.tab.get et with
    |some te=>match v with
     | .tree xs=> .node (decide (0≤i)) (.elem xs i.toNat fun e=>bif Nat.beq e.cells.length te.sz then pure1 (.cptr e) k else .fail 149) (.fail 136)
     | .sref a lo len=>match hget s.H a with
      |some (.row e _ _ _)=>bif Nat.beq e te.sz then
        .node (decide (0≤i∧i<len)) (match lo with| 0=>k ⟨.ref a i.toNat 0,[],[]⟩|_=> .fail 150) (.fail 137)
       else .fail 151
      |_=> .fail 152
     |_=> .fail 142
    |none=> .fail 153
   |some { desc:= .array n et,.. } =>match cfg.tab.get et with
    |some te=>match v with
     | .ref a e o=> .fin i n fun j=>pure1 (.ref a e (o+j*te.sz)) k
     | .cptr w=> .fin i n fun j=>partD cfg et w (j*te.sz) fun x=>pure1 (.cptr x) k
     |_=> .fail 139
    |none=> .fail 138
   |_=> .fail 141
  |_,_=> .fail 143
 | .index t x ix=>match opnd s x,opnd s ix with
  |some v,some (.int _ i)=>match cfg.tab.get t with
   |some { desc:= .string,.. } =>match v with
    | .str bs=> .node (decide (0≤i)) (.byte bs i.toNat fun b=>pure1 (.int .u8 b.toNat) k) (.fail 144)
    |_=> .fail 147
   |some { desc:= .array n et,.. } =>match v with
    | .agg _=>match cfg.tab.get et with
     |some te=> .fin i n fun j=>partD cfg et v (j*te.sz) fun x=>pure1 x k
     |none=> .fail 145
    |_=> .fail 146
   |_=> .fail 154
  |_,_=> .fail 148
 | .typeAssert x _ u ok=>match opnd s x,cfg.tab.get u with
  |some .nili,some { zero:=some z,.. } =>bif ok then pure1 (.tuple [z,.bool false]) k else .fail 149
  |some (.iface t v),some ui=>
   let res (b:Bool) (y:AV):DT α:=
    bif b then(bif ok then pure1 (.tuple [y,.bool true]) k else pure1 y k)
    else(bif ok then(match ui.zero with|some z=>pure1 (.tuple [z,.bool false]) k|none=> .fail 150)else .fail 151)
   match ui.desc with
   | .iface=> .ta t u fun b=>res b (.iface t v)
   |_=>res (Nat.beq t u) v
  |_,_=> .fail 152
 | .extract x i=>match opnd s x with
  |some (.tuple vs)=>match vs[i]? with|some v=>pure1 v k|none=> .fail 153
  |_=> .fail 154
 | .call c=>match opnds s c.args.toList with
  |none=> .fail 155
  |some args=>match c.callee with
   | .value fx=>match opnd s fx,o.dst with
    |some (.func f as cs),some d=>callD s d (cfg.opens f) (fun a i q=> .call f a i q) (as++args++cs) k
    |some (.func f as cs),none=>callD s 0 (cfg.opens f) (fun a i q=> .call f a i q) (as++args++cs) k
    |_,_=> .fail 156
   | .invoke rx name=>match opnd s rx,o.dst with
    |some (.iface t v),some d=> .meth t name fun f fld=>bif fld then(match v with
     | .agg [c]=>callD s d (cfg.opens f) (fun a i q=> .call f a i q) (c::args) k
     |_=> .fail 159)else callD s d (cfg.opens f) (fun a i q=> .call f a i q) (v::args) k
    |_,_=> .fail 157
   | .builtin b=>builtinD cfg s o.dst b c.argTypes.toList args k
 |_=> .fail 158
def yieldA (all:List Oper) (s:St) (j:Nat):Option (Option Bool):=
 match all[j]? with
 |some o=>match o.dst with
  |some d=>match tget s.T d with
   |some (.bool b)=>some (some b)
   |some .top=>none
   |some (.raw _)=>none
   |some _=>some none
   |none=>none
  |none=>some none
 |none=>some none
def Fx.hit:Fx→List Site
 | .setBox s _ _=>[s]
 | .setVar s _ _=>[s]
 | .setRow s _ _=>[s]
 | .setBlk s _=>[s]
 | .drop s=>[s]
 |_=> []
def fxHit:List Fx→List Site
 | [] => []
 |f::r=>f.hit++fxHit r
def dropped (s:Site):List Fx→Bool
 | [] =>false
 | .drop a::r=>Site.eq a s||dropped s r
 |_::r=>dropped s r
def ahead (ops:List Oper):Nat→Nat→Nat→Bool
 | 0,_,_=>false
 |n+1,k,j=>match ops[j]? with
  |some o=>(o.after.toList.any fun e=>Region.binds .any e&&Nat.beq e.on k)||(o.after.toList.any fun e=>Region.binds .any e&&ahead ops n k e.on)
  |none=>false
abbrev Pend:=List (Nat×List Site)
def sitesOk (ops:List Oper) (k j:Nat) (H:Heap) (fx:List Fx):List Site→Bool
 | [] =>true
 |s::r=>isLive H s&& !dropped s fx&&(!memS s (fxHit fx)||ahead ops 3 k j)&&sitesOk ops k j H fx r
def pendOk (ops:List Oper) (j:Nat) (H:Heap) (fx:List Fx):Pend→Bool
 | [] =>true
 |(k,l)::r=>sitesOk ops k j H fx l&&pendOk ops j H fx r
def accSites:Acc→List Site
 | [] => []
 |(s,_)::r=>s::accSites r
def isNil {β:Type} :List β→Bool
 | [] =>true
 |_=>false
def putT (dst:Option Nat) (v:AV) (T:Temps):Temps:=
 match dst with
 |some d=>(d,v)::T
 |none=>T
def putTK {β:Type} (dst:Option Nat) (v:AV) (T:Temps) (k:Temps→β):β:=
 match dst with
 |some d=>k ((d,v)::T)
 |none=>k T
def stepD (draw:Bool) (all:List Oper) (o:Oper) (T:Temps) (H:Heap) (q:List Fx→Bool) (k:Temps→Heap→Acc→DT α):DT α:=
 let go:=opR cfg draw ⟨T,H⟩ o fun sc=>match sc with
  |⟨v,fx,rd⟩=>bif q fx then fxAppK H fx fun H=>putTK o.dst v T fun T=>k T H rd else .fail 161
 match o.guard with
 |none=>go
 |some (g,want)=>match yieldA all ⟨T,H⟩ g with
  |some (some b)=>bif want then .node b go (putTK o.dst (.tuple []) T fun T=>k T H [])else .node b (putTK o.dst (.tuple []) T fun T=>k T H []) go
  |some none=>putTK o.dst (.tuple []) T fun T=>k T H []
  |none=> .fail 160
def opsD (all:List Oper):List Oper→Temps→Heap→(St→DT α)→DT α
 | [],T,H,k=>k ⟨T,H⟩
 |o::os,T,H,k=>stepD cfg false all o T H (fun _=>true) fun T H _=>opsD all os T H k
def planD (all:List Oper):Plan→Temps→Heap→Pend→(St→DT α)→DT α
 | .stop,T,H,_,k=>k ⟨T,H⟩
 | .sil i r,T,H,pend,k=>match all[i]? with
  |some o=>stepD cfg true all o T H isNil fun T H rd=>planD all r T H (match rd with| [] =>pend|rd=>(i,accSites rd)::pend) k
  |none=> .fail 162
 | .eff i r,T,H,pend,k=>match all[i]? with
  |some o=>stepD cfg true all o T H (fun fx=>hitsLive H (fxHit fx)&&pendOk all i H fx pend) fun T H _=>planD all r T H pend k
  |none=> .fail 163
 | .alt p q,T,H,pend,k=> .amb (planD all p T H pend k) (planD all q T H pend k)
def regionD (plan:Plan) (ops:List Oper) (draw:Bool) (s:St) (k:St→DT α):DT α:=
 match s with
 |⟨T,H⟩=>bif draw then planD cfg ops plan T H [] k else opsD cfg ops ops T H k
end
def headT (s:St):List (Nat×Nat)→List Site→Option (Temps×List Site)
 | [],L=>some ([],L)
 |(t,fz)::r,L=>match tget s.T t with
  |some v=>bif Nat.beq fz 1 then(match closeV s.H true deep L v with
    |some (v',L)=>(match headT s r L with|some (T,L)=>some ((t,v')::T,L)|none=>none)
    |none=>none)
   else(match headT s r L with|some (T,L)=>some ((t,v)::T,L)|none=>none)
  |none=>none
def firstRegion:Code→Nat
 | .region id _ _=>id
 | .seq a _=>firstRegion a
 | .cond _ a _=>firstRegion a
 | .block _ a=>firstRegion a
 | .loop a=>firstRegion a
 | .scope a=>firstRegion a
 |_=>0
def headNames (t:Nat):List Site→Nat→Ren
 | [],_=> []
 |p::r,i=>(match p with| .inc j=>(.inc j,.inc j)|p=>(p,.head t i))::headNames t r (i+1)
def notIn (seen:List Site):List Site→List Site
 | [] => []
 |p::r=>bif memS p seen then notIn seen r else p::notIn seen r
def headRen (H:Heap):Temps→List Site→Ren
 | [],_=> []
 |(t,v)::r,seen=>headNames t (notIn seen (reach H deep [] v)) 0++headRen H r (seen++notIn seen (reach H deep [] v))
def headHeap (H:Heap) (ρ:Ren):Ren→Heap
 | [] => []
 |(a,a')::r=>match hget H a with
  |some b=>(a',renB ρ b)::headHeap H ρ r
  |none=>headHeap H ρ r
def headRenT (ρ:Ren):Temps→Temps
 | [] => []
 |(t,v)::r=>(t,match v with| .nils=> .sref (.head t 0) 0 0 |v=>renV ρ deep v)::headRenT ρ r
def nilSz:List (Nat×Nat)→Nat→Nat
 | [],_=>0
 |(a,m)::r,t=>bif Nat.beq a t then m-2 else nilSz r t
def nilHeap (live:List (Nat×Nat)):Temps→Heap
 | [] => []
 |(t,v)::r=>match v with
  | .nils=>(.head t 0,.row (nilSz live t) [] true true)::nilHeap live r
  |_=>nilHeap live r
def incSites:Heap→List Site
 | [] => []
 |(.inc i,_)::r=> .inc i::incSites r
 |_::r=>incSites r
def nilOk (ρ:Ren):Heap→Bool
 | [] =>true
 |(a,_)::r=> !sndIn a ρ&&nilOk ρ r
def Site.lt:Site→Site→Bool
 | .inc i,.inc j=>Nat.blt i j
 | .inc _,_=>true
 | .out _,.inc _=>false
 | .out i,.out j=>Nat.blt i j
 | .out _,_=>true
 | .head _ _,.inc _=>false
 | .head _ _,.out _=>false
 | .head t i,.head u j=>Nat.blt t u||(Nat.beq t u&&Nat.blt i j)
 | .head _ _,_=>true
 |_,_=>false
def insH (a:Site) (b:Blk):Heap→Heap
 | [] =>[(a,b)]
 |(c,d)::r=>bif Site.lt c a then(c,d)::insH a b r else(a,b)::(c,d)::r
def sortH:Heap→Heap
 | [] => []
 |(a,b)::r=>insH a b (sortH r)
def boxNil (s:Site) (t off esz:Nat) (H:Heap):Heap:=
 match hget H s with
 |some (.box (.agg cs) wr)=>match cs[off]? with
  |some .nils=>match hget H (.told (1000000+t) off)with
   |none=>(.told (1000000+t) off,.row esz [] true true)::hset H s (.box (.agg (cs.set off (.sref (.told (1000000+t) off) 0 0))) wr)
   |some _=>H
  |_=>H
 |_=>H
def boxNilC (s:Site) (t:Nat):Nat→Nat→Heap→Heap
 | 0,_,H=>H
 |n+1,c,H=>bif Nat.beq c 0 then H else boxNilC s t n (c/1000) (boxNil s t (c%1000/32) (c%1000%32) H)
def boxNils (T:Temps):List (Nat×Nat)→Heap→Heap
 | [],H=>H
 |(t,c)::r,H=>bif Nat.blt c 1000 then boxNils T r H else
  match tget T t with
  |some (.ref s 0 0)=>boxNils T r (boxNilC s t 16 (c/1000) H)
  |_=>boxNils T r H
def head0 (live:List (Nat×Nat)) (s:St):Option St:=
 match headT s live [] with
 |some (T,L)=>
  let H':=fxApp s.H (frzAll L)
  let ρ:=headNames 0 (incSites s.H) 0++headRen H' T (incSites s.H)
  let N:=nilHeap live T
  bif renOk ρ&&nilOk ρ N then some ⟨headRenT ρ T,sortH (N++headHeap H' ρ ρ)⟩else none
 |none=>none
def head (live:List (Nat×Nat)) (s:St):Option St:=
 match s with
 |⟨T,H⟩=>head0 live ⟨T,boxNils T live H⟩
section
variable {β:Type}
def frcT (T:Temps) (k:Temps→β):β:=
 match T with
 | [] =>k []
 |(t,v)::r=>frc v fun v=>frcT r fun r=>k ((t,v)::r)
def frcSt (s:St) (k:St→β):β:=
 match s with
 |⟨T,H⟩=>frcT T fun T=>frcH H fun H=>k ⟨T,H⟩
end
section
variable {α:Type} (cfg:Cfg) (fid:FuncId)
def execD:Code→St→(Ex→St→DT α)→DT α
 | .skip,s,k=>k .normal s
 | .label _,s,k=>k .normal s
 | .region id ops draw,s,k=>regionD cfg (cfg.plan fid id) ops.toList draw s (k .normal)
 | .seq a b,s,k=>execD a s fun e s'=>match e with
  | .normal=>execD b s' k
  |e=>k e s'
 | .cond c a b,s,k=>match opnd s c with
  |some (.bool c)=> .node c (execD a s k) (execD b s k)
  |_=> .fail 170
 | .block id a,s,k=>execD a s fun e s'=>match e with
  | .exit id'=>bif Nat.beq id' id then k .normal s' else k (.exit id') s'
  |e=>k e s'
 | .loop a,s,k=>
  match head (cfg.live fid (firstRegion a)) s with
  |some s'=>frcSt s' fun s'=> .loop a (cfg.live fid (firstRegion a)) s' k
  |none=> .fail 171
 | .exit id,s,k=>k (.exit id) s
 | .ret,s,k=>k .ret s
 |_,_,_=> .fail 172
def againD (body:Code) (live:List (Nat×Nat)) (k:Ex→St→DT α) (e:Ex) (s:St):DT α:=
 match e with
 | .normal=>match head live s with
  |some s'=>frcSt s' fun s'=> .loop body live s' k
  |none=> .fail 173
 |e=>k e s
def argsT:Nat→List AV→Temps
 |_,[] => []
 |i,v::r=>(i,v)::argsT (i+1) r
def incH:Nat→List Blk→Heap
 |_,[] => []
 |i,b::r=>(.inc i,b)::incH (i+1) r
def resultsD (s:St):List ResultVar→(List AV→DT α)→DT α
 | [],k=>k []
 | .tmp t::r,k=>match tget s.T t with
  |some v=>resultsD s r fun vs=>k (v::vs)
  |none=> .fail 174
 | .cell a t::r,k=>match tget s.T a with
  |some p=>loadD cfg s t p fun sc=>resultsD s r fun vs=>k (sc.v::vs)
  |none=> .fail 175
def incVals (H:Heap):Nat→Nat→List AV
 | 0,_=> []
 |n+1,i=>(match hget H (.inc i)with|some (.box v _)=>[v] |_=> [])++incVals H n (i+1)
def ownRefs:List Site→List Site
 | [] => []
 |a::r=>bif a.isInc then ownRefs r else a::ownRefs r
def renSelf:Nat→Nat→Ren
 | 0,_=> []
 |n+1,i=>(.inc i,.inc i)::renSelf n (i+1)
def takeB (H:Heap) (mk:Nat→Site):Nat→Nat→Option (List Blk)
 | 0,_=>some []
 |n+1,i=>match hget H (mk i)with
  |some b=>match takeB H mk n (i+1)with|some l=>some (b::l)|none=>none
  |none=>none
def oneA:List AV→AV
 | [v]=>v
 |vs=> .tuple vs
def nilRes (ninc:Nat) (v:AV):Option Res:=
 bif cfg.fresh fid&&Nat.beq ninc 0 then(match v with
  | .nils=>some ⟨.sref (.out 0) 0 0,[],[.row (cfg.nilsz fid) [] true true]⟩
  |_=>none)else none
def finishD (s:St) (ninc:Nat) (vs:List AV):DT Res:=
 match nilRes cfg fid ninc (oneA vs)with
 |some r=> .ret r
 |none=>
 match(bif cfg.fresh fid then some (oneA vs,[])else closeV s.H false deep [] (oneA vs))with
 |some (v,Lz)=>
  frcS (bif cfg.fresh fid then ownRefs (reachs s.H deep [] (v::incVals s.H ninc 0))else []) fun L=>
  let ρ:=renSelf ninc 0++renOut L 0
  bif renOk ρ then
   frcH (headHeap (fxApp s.H (frzAll Lz)) ρ ρ) fun H'=>
   match takeB H' .inc ninc 0,takeB H' .out L.length 0 with
   |some bs,some os=>frc (renV ρ deep v) fun v=> .ret ⟨v,bs,os⟩
   |_,_=> .fail 176
  else .fail 177
 |none=> .fail 182
def startD (fn:Func) (args:List AV) (inc:List Blk):DT Res:=
 match fn.body with
 |some c=>bif Nat.ble args.length fn.ntmps then execD cfg fid c ⟨argsT 0 args,incH 0 inc⟩ fun e s=>match e with
  | .exit _=> .fail 178
  |_=>resultsD cfg s fn.results.toList fun vs=>finishD cfg fid s inc.length vs
  else .fail 183
 |none=> .fail 179
end
end Go.Ab
namespace Go.Ab
open Go
structure Ctx where
 cfg:Cfg
 call:FuncId→List AV→List Blk→Res→Prop
 meth:TypeId→String→FuncId→Bool→Prop
 ta:TypeId→TypeId→Bool→Prop
section
variable {α:Type} (X:Ctx) (fid:FuncId)
inductive SatN:Nat→DT α→(α→Prop)→Prop
 |ret {n:Nat} {a:α} {Q:α→Prop} :Q a→SatN n (.ret a) Q
 |nodeT {n:Nat} {c:Bool} {a b:DT α} {Q:α→Prop} :c=true→SatN n a Q→SatN n (.node c a b) Q
 |nodeF {n:Nat} {c:Bool} {a b:DT α} {Q:α→Prop} :c=false→SatN n b Q→SatN n (.node c a b) Q
 |amb {n:Nat} {a b:DT α} {Q:α→Prop} :SatN n a Q→SatN n b Q→SatN n (.amb a b) Q
 |elem {n:Nat} {xs:List AV} {i:Nat} {v:AV} {k:AV→DT α} {Q:α→Prop} :xs[i]? =some v→SatN n (k v) Q→SatN n (.elem xs i k) Q
 |byte {n:Nat} {xs:List UInt8} {i:Nat} {v:UInt8} {k:UInt8→DT α} {Q:α→Prop} :xs[i]? =some v→SatN n (k v) Q→SatN n (.byte xs i k) Q
 |bytes {n:Nat} {xs:List AV} {bs:List UInt8} {k:List UInt8→DT α} {Q:α→Prop} :xs=bs.map (fun c=>AV.int .u8 c.toNat)→SatN n (k bs) Q→SatN n (.bytes xs k) Q
 |fin {n:Nat} {i:Int} {m j:Nat} {k:Nat→DT α} {Q:α→Prop} :i=j→j<m→SatN n (k j) Q→SatN n (.fin i m k) Q
 |esz {n:Nat} {xs:List AV} {e:Nat} {k:DT α} {Q:α→Prop} :(∀v∈xs,v.cells.length=e)→SatN n k Q→SatN n (.esz xs e k) Q
 |call {n:Nat} {f:FuncId} {args:List AV} {inc:List Blk} {r:Res} {k:Res→DT α} {Q:α→Prop} :X.call f args inc r→SatN n (k r) Q→SatN n (.call f args inc k) Q
 |meth {n:Nat} {t:TypeId} {m:String} {f:FuncId} {b:Bool} {k:FuncId→Bool→DT α} {Q:α→Prop} :X.meth t m f b→SatN n (k f b) Q→SatN n (.meth t m k) Q
 |ta {n:Nat} {t u:TypeId} {b:Bool} {k:Bool→DT α} {Q:α→Prop} :X.ta t u b→SatN n (k b) Q→SatN n (.ta t u k) Q
 |loop {n:Nat} {body:Code} {live:List (Nat×Nat)} {s:St} {k:Ex→St→DT α} {Q:α→Prop} :
  SatN n (execD X.cfg fid body s (againD body live k)) Q→SatN (n+1) (.loop body live s k) Q
theorem SatN.mono {n m:Nat} {d:DT α} {Q:α→Prop} (h:SatN X fid n d Q) (hm:n≤m):SatN X fid m d Q:=by
 induction h generalizing m with
 |ret h=>exact .ret h
 |nodeT hc _ ih=>exact .nodeT hc (ih hm)
 |nodeF hc _ ih=>exact .nodeF hc (ih hm)
 |amb _ _ ia ib=>exact .amb (ia hm) (ib hm)
 |elem h _ ih=>exact .elem h (ih hm)
 |byte h _ ih=>exact .byte h (ih hm)
 |bytes h _ ih=>exact .bytes h (ih hm)
 |fin h h' _ ih=>exact .fin h h' (ih hm)
 |esz h _ ih=>exact .esz h (ih hm)
 |call h _ ih=>exact .call h (ih hm)
 |meth h _ ih=>exact .meth h (ih hm)
 |ta h _ ih=>exact .ta h (ih hm)
 |loop _ ih=>
  cases m with
  |zero=>cases hm
  |succ m=>exact .loop (ih (Nat.le_of_succ_le_succ hm))
def Sat (d:DT α) (Q:α→Prop):Prop:=∃n,SatN X fid n d Q
variable {X fid}
variable {Q:α→Prop}
namespace Sat
theorem ret {a:α} (h:Q a):Sat X fid (.ret a) Q:=⟨0,.ret h⟩
theorem nodeT {c:Bool} {a b:DT α} (hc:c=true):Sat X fid a Q→Sat X fid (.node c a b) Q:=fun⟨n,h⟩=>⟨n,.nodeT hc h⟩
theorem nodeF {c:Bool} {a b:DT α} (hc:c=false):Sat X fid b Q→Sat X fid (.node c a b) Q:=fun⟨n,h⟩=>⟨n,.nodeF hc h⟩
theorem split {c:Bool} {a b:DT α} (ht:c=true→Sat X fid a Q) (hf:c=false→Sat X fid b Q):Sat X fid (.node c a b) Q:=by
 cases c
 ·exact nodeF rfl (hf rfl)
 ·exact nodeT rfl (ht rfl)
theorem amb {a b:DT α} :Sat X fid a Q→Sat X fid b Q→Sat X fid (.amb a b) Q:=
 fun⟨n,h⟩ ⟨m,h'⟩=>⟨max n m,.amb (h.mono _ _ (Nat.le_max_left n m)) (h'.mono _ _ (Nat.le_max_right n m))⟩
theorem elem {xs:List AV} {i:Nat} {k:AV→DT α} (v:AV) (h:xs[i]? =some v):Sat X fid (k v) Q→Sat X fid (.elem xs i k) Q:=fun⟨n,h'⟩=>⟨n,.elem h h'⟩
theorem byte {xs:List UInt8} {i:Nat} {k:UInt8→DT α} (v:UInt8) (h:xs[i]? =some v):Sat X fid (k v) Q→Sat X fid (.byte xs i k) Q:=fun⟨n,h'⟩=>⟨n,.byte h h'⟩
theorem bytes {xs:List AV} {k:List UInt8→DT α} (bs:List UInt8) (h:xs=bs.map (fun c=>AV.int .u8 c.toNat)):Sat X fid (k bs) Q→Sat X fid (.bytes xs k) Q:=fun⟨n,h'⟩=>⟨n,.bytes h h'⟩
theorem fin {i:Int} {m:Nat} {k:Nat→DT α} (j:Nat) (h:i=j) (hj:j<m):Sat X fid (k j) Q→Sat X fid (.fin i m k) Q:=fun⟨n,h'⟩=>⟨n,.fin h hj h'⟩
theorem esz {xs:List AV} {e:Nat} {k:DT α} (h:∀v∈xs,v.cells.length=e):Sat X fid k Q→Sat X fid (.esz xs e k) Q:=fun⟨n,h'⟩=>⟨n,.esz h h'⟩
theorem call {f:FuncId} {args:List AV} {inc:List Blk} {r:Res} {k:Res→DT α} (h:X.call f args inc r):Sat X fid (k r) Q→Sat X fid (.call f args inc k) Q:=fun⟨n,h'⟩=>⟨n,.call h h'⟩
theorem meth {t:TypeId} {m:String} {f:FuncId} {b:Bool} {k:FuncId→Bool→DT α} (hm:X.meth t m f b):Sat X fid (k f b) Q→Sat X fid (.meth t m k) Q:=fun⟨n,h'⟩=>⟨n,.meth hm h'⟩
theorem ta {t u:TypeId} {b:Bool} {k:Bool→DT α} (h:X.ta t u b):Sat X fid (k b) Q→Sat X fid (.ta t u k) Q:=fun⟨n,h'⟩=>⟨n,.ta h h'⟩
theorem loop {body:Code} {live:List (Nat×Nat)} {s:St} {k:Ex→St→DT α} :Sat X fid (execD X.cfg fid body s (againD body live k)) Q→Sat X fid (.loop body live s k) Q:=fun⟨n,h⟩=>⟨n+1,.loop h⟩
theorem at_ {body:Code} {live:List (Nat×Nat)} {s s':St} {k:Ex→St→DT α} (h:s=s'):Sat X fid (.loop body live s' k) Q→Sat X fid (.loop body live s k) Q:=fun h'=>h▸h'
theorem rounds {ι:Type} {body:Code} {live:List (Nat×Nat)} {k:Ex→St→DT α} {s:St} (st:ι→St) (I:ι→Prop) (μ:ι→Nat) (i:ι) (hs:s=st i) (hi:I i)
  (round:∀i,I i→(∀j,I j→μ j<μ i→Sat X fid (.loop body live (st j) k) Q)→Sat X fid (execD X.cfg fid body (st i) (againD body live k)) Q):Sat X fid (.loop body live s k) Q:=by
 subst hs
 have key:∀n i,μ i=n→I i→Sat X fid (.loop body live (st i) k) Q:=by
  intro n
  induction n using Nat.strongRecOn with
  |_ n ih=>
   intro i hn hi
   exact loop (round i hi fun j hj hlt=>ih (μ j) (hn▸hlt) j rfl hj)
 exact key _ i rfl hi
end Sat
end
end Go.Ab
namespace Go.Ab
open Go
inductive Loc where
 |none
 |at(b esz:Nat) (size:Nat×Nat)
abbrev LMap:=Site→Loc
def m0:LMap:=fun _=> .none
abbrev Phi:=Nat→Nat→Option Value
inductive R (Φ:Phi):LMap→AV→Value→Prop
 |bool {m:LMap} (b:Bool):R Φ m (.bool b) (.bool b)
 |int {m:LMap} (k:IntKind) (n:Int):R Φ m (.int k n) (.int k n)
 |str {m:LMap} {s:List UInt8} {x:ByteArray} :x.data.toList=s→R Φ m (.str s) (.string x)
 |nilp {m:LMap} :R Φ m .nilp (.pointer none)
 |nils {m:LMap} {a:Option Addr} :R Φ m .nils (.slice a 0 0)
 |nilf {m:LMap} :R Φ m .nilf .nilFunc
 |nili {m:LMap} :R Φ m .nili .nilIface
 |iface {m:LMap} {t:TypeId} {v:AV} {x:Value} :R Φ m v x→R Φ m (.iface t v) (.iface t x)
 |func {m:LMap} {f:FuncId} {as cs:List AV} {xs ys:Array Value} :as.length=xs.size→cs.length=ys.size→
  (∀(j:Nat) (v:AV) (x:Value),as[j]? =some v→xs[j]? =some x→R Φ m v x)→(∀(j:Nat) (v:AV) (x:Value),cs[j]? =some v→ys[j]? =some x→R Φ m v x)→
  R Φ m (.func f as cs) (.func (.func f) xs ys)
 |agg {m:LMap} {cs:List AV} {xs:Array Value} :cs.length=xs.size→(∀(j:Nat) (v:AV) (x:Value),cs[j]? =some v→xs[j]? =some x→R Φ m v x)→R Φ m (.agg cs) (.agg xs)
 |tuple {m:LMap} {cs:List AV} {xs:Array Value} :cs.length=xs.size→(∀(j:Nat) (v:AV) (x:Value),cs[j]? =some v→xs[j]? =some x→R Φ m v x)→R Φ m (.tuple cs) (.tuple xs)
 |tree0 {m:LMap} {a:Option Addr} {cap:Nat} :R Φ m (.tree []) (.slice a 0 cap)
 |tree {m:LMap} {xs:List AV} {b off cap:Nat} (esz:Nat) (f:Nat→Nat→Value):xs.length≤cap→
  (∀(i:Nat) (v:AV),xs[i]? =some v→v.cells.length=esz)→
  (∀(i:Nat) (v:AV) (j:Nat) (c:AV),xs[i]? =some v→v.cells[j]? =some c→Φ b (off+i*esz+j)=some (f i j))→
  (∀(i:Nat) (v:AV) (j:Nat) (c:AV),xs[i]? =some v→v.cells[j]? =some c→R Φ m0 c (f i j))→(∀(i:Nat) (v:AV),xs[i]? =some v→allOneCell v.cells=true)→
  R Φ m (.tree xs) (.slice (some ⟨b,off,none⟩) xs.length cap)
 |cptr {m:LMap} {v:AV} {b off:Nat} (f:Nat→Value):(∀(j:Nat) (c:AV),v.cells[j]? =some c→Φ b (off+j)=some (f j))→(∀(j:Nat) (c:AV),v.cells[j]? =some c→R Φ m0 c (f j))→
  R Φ m (.cptr v) (.pointer (some ⟨b,off,none⟩))
 |ref {m:LMap} {s:Site} {i o b esz:Nat} {size:Nat×Nat} :m s= .at b esz size→R Φ m (.ref s i o) (.pointer (some ⟨b,i*esz+o,none⟩))
 |sref0 {m:LMap} {s:Site} {lo:Nat} {a:Option Addr} :R Φ m (.sref s lo 0) (.slice a 0 0)
 |sref {m:LMap} {s:Site} {lo len cap b esz:Nat} {size:Nat×Nat} :m s= .at b esz size→len≤cap→(lo+cap)*esz≤size.1→lo+len≤size.2→R Φ m (.sref s lo len) (.slice (some ⟨b,lo*esz,none⟩) len cap)
 |top {m:LMap} {x:Value} :R Φ m .top x
 |raw {m:LMap} {x:Value} :x.oneCell'=true→R Φ m (.raw x) x
structure Ext (Φ:Phi) (m:LMap) (Φ':Phi) (m':LMap):Prop where
 phi:∀b o x,Φ b o=some x→Φ' b o=some x
 map:∀s b e z,m s= .at b e z→m' s= .at b e z
theorem Ext.refl (Φ:Phi) (m:LMap):Ext Φ m Φ m:=⟨fun _ _ _ h=>h,fun _ _ _ _ h=>h⟩
theorem Ext.trans {Φ Φ' Φ'':Phi} {m m' m'':LMap} (h:Ext Φ m Φ' m') (h':Ext Φ' m' Φ'' m''):Ext Φ m Φ'' m'':=
 ⟨fun _ _ _ x=>h'.phi _ _ _ (h.phi _ _ _ x),fun _ _ _ _ x=>h'.map _ _ _ _ (h.map _ _ _ _ x)⟩
theorem R.mono {Φ:Phi} {m:LMap} {v:AV} {x:Value} (h:R Φ m v x):∀ {Φ':Phi} {m':LMap},Ext Φ m Φ' m'→R Φ' m' v x:=by
 induction h with
 |bool b=>exact fun _=> .bool b
 |int k n=>exact fun _=> .int k n
 |str h=>exact fun _=> .str h
 |nilp=>exact fun _=> .nilp
 |nils=>exact fun _=> .nils
 |nilf=>exact fun _=> .nilf
 |nili=>exact fun _=> .nili
 |iface _ ih=>exact fun e=> .iface (ih e)
 |func h1 h2 _ _ ih1 ih2=>exact fun e=> .func h1 h2 (fun j v x hv hx=>ih1 j v x hv hx e) (fun j v x hv hx=>ih2 j v x hv hx e)
 |agg h1 _ ih=>exact fun e=> .agg h1 (fun j v x hv hx=>ih j v x hv hx e)
 |tuple h1 _ ih=>exact fun e=> .tuple h1 (fun j v x hv hx=>ih j v x hv hx e)
 |tree0=>exact fun _=> .tree0
 |tree esz f h1 h2 h3 _ h5 ih=>
  exact fun e=> .tree esz f h1 h2 (fun i v j c hv hc=>e.phi _ _ _ (h3 i v j c hv hc)) (fun i v j c hv hc=>ih i v j c hv hc ⟨e.phi,fun _ _ _ _ h=>h⟩) h5
 |cptr f h1 _ ih=>exact fun e=> .cptr f (fun j c hc=>e.phi _ _ _ (h1 j c hc)) (fun j c hc=>ih j c hc ⟨e.phi,fun _ _ _ _ h=>h⟩)
 |ref h=>exact fun e=> .ref (e.map _ _ _ _ h)
 |sref0=>exact fun _=> .sref0
 |sref h h1 h2 h3=>exact fun e=> .sref (e.map _ _ _ _ h) h1 h2 h3
 |top=>exact fun _=> .top
 |raw h=>exact fun _=> .raw h
def Rs (Φ:Phi) (m:LMap) (vs:List AV) (xs:List Value):Prop:=vs.length=xs.length∧∀(j:Nat) (v:AV),vs[j]? =some v→∃x,xs[j]? =some x∧R Φ m v x
theorem Rs.nil {Φ:Phi} {m:LMap} :Rs Φ m [] [] :=⟨rfl,fun j v h=>by simp at h⟩
theorem Rs.cons {Φ:Phi} {m:LMap} {v:AV} {x:Value} {vs:List AV} {xs:List Value} (h:R Φ m v x) (hs:Rs Φ m vs xs):Rs Φ m (v::vs) (x::xs):=by
 refine⟨by simp[hs.1],fun j u hj=> ?_⟩
 cases j with
 |zero=>simp at hj;subst hj;exact⟨x,rfl,h⟩
 |succ j=>simpa using hs.2 j u (by simpa using hj)
theorem Rs.inv_cons {Φ:Phi} {m:LMap} {v:AV} {vs:List AV} {xs:List Value} (h:Rs Φ m (v::vs) xs):∃x r,xs=x::r∧R Φ m v x∧Rs Φ m vs r:=by
 cases xs with
 |nil=>have:=h.1;simp at this
 |cons x r=>
  obtain⟨y,hy,hr⟩:=h.2 0 v rfl
  simp at hy;subst hy
  exact⟨x,r,rfl,hr,by have:=h.1;simpa using this,fun j u hj=>by simpa using h.2 (j+1) u (by simpa using hj)⟩
theorem Rs.inv_nil {Φ:Phi} {m:LMap} {xs:List Value} (h:Rs Φ m [] xs):xs= [] :=by
 have:=h.1
 cases xs with
 |nil=>rfl
 |cons=>simp at this
theorem Rs.mono {Φ Φ':Phi} {m m':LMap} {vs:List AV} {xs:List Value} (e:Ext Φ m Φ' m') (h:Rs Φ m vs xs):Rs Φ' m' vs xs:=
 ⟨h.1,fun j v hv=>let ⟨x,hx,hr⟩:=h.2 j v hv;⟨x,hx,hr.mono e⟩⟩
theorem Rs.append {Φ:Phi} {m:LMap} {vs us:List AV} {xs ys:List Value} (h:Rs Φ m vs xs) (h':Rs Φ m us ys):Rs Φ m (vs++us) (xs++ys):=by
 induction vs generalizing xs with
 |nil=>rw[h.inv_nil];exact h'
 |cons v vs ih=>
  obtain⟨x,r,rfl,hr,hs⟩:=h.inv_cons
  exact .cons hr (ih hs)
theorem Rs.at {Φ:Phi} {m:LMap} {vs:List AV} {xs:List Value} (h:Rs Φ m vs xs) {j:Nat} {v:AV} {x:Value} (hv:vs[j]? =some v) (hx:xs[j]? =some x):R Φ m v x:=by
 obtain⟨y,hy,hr⟩:=h.2 j v hv
 rw[hx]at hy;cases hy;exact hr
theorem Rs.mk' {Φ:Phi} {m:LMap} {vs:List AV} {xs:List Value} (hl:vs.length=xs.length) (h:∀(j:Nat) (v:AV) (x:Value),vs[j]? =some v→xs[j]? =some x→R Φ m v x):Rs Φ m vs xs:=by
 refine⟨hl,fun j v hv=> ?_⟩
 have hj:j<vs.length:=(List.getElem?_eq_some_iff.1 hv).1
 have hx:xs[j]? =some xs[j]:=by simp[←hl,hj]
 exact⟨_,hx,h j v _ hv hx⟩
theorem R.aggs {Φ:Phi} {m:LMap} {cs:List AV} {xs:Array Value} (h:Rs Φ m cs xs.toList):R Φ m (.agg cs) (.agg xs):=
 .agg (by simpa using h.1) (fun j v x hv hx=>h.at hv (by simpa using hx))
theorem R.tuples {Φ:Phi} {m:LMap} {cs:List AV} {xs:Array Value} (h:Rs Φ m cs xs.toList):R Φ m (.tuple cs) (.tuple xs):=
 .tuple (by simpa using h.1) (fun j v x hv hx=>h.at hv (by simpa using hx))
theorem R.agg_inv {Φ:Phi} {m:LMap} {cs:List AV} {x:Value} (h:R Φ m (.agg cs) x):∃xs:Array Value,x= .agg xs∧Rs Φ m cs xs.toList:=by
 cases h with
 |agg h1 h2=>exact⟨_,rfl,Rs.mk' (by simpa using h1) fun j v x hv hx=>h2 j v x hv (by simpa using hx)⟩
theorem R.tuple_inv {Φ:Phi} {m:LMap} {cs:List AV} {x:Value} (h:R Φ m (.tuple cs) x):∃xs:Array Value,x= .tuple xs∧Rs Φ m cs xs.toList:=by
 cases h with
 |tuple h1 h2=>exact⟨_,rfl,Rs.mk' (by simpa using h1) fun j v x hv hx=>h2 j v x hv (by simpa using hx)⟩
theorem R.func_inv {Φ:Phi} {m:LMap} {f:FuncId} {as cs:List AV} {x:Value} (h:R Φ m (.func f as cs) x):
  ∃xs ys:Array Value,x= .func (.func f) xs ys∧Rs Φ m as xs.toList∧Rs Φ m cs ys.toList:=by
 cases h with
 |func h1 h2 h3 h4=>exact⟨_,_,rfl,Rs.mk' (by simpa using h1) fun j v x hv hx=>h3 j v x hv (by simpa using hx),Rs.mk' (by simpa using h2) fun j v x hv hx=>h4 j v x hv (by simpa using hx)⟩
theorem R.funcs {Φ:Phi} {m:LMap} {f:FuncId} {as cs:List AV} {xs ys:Array Value} (h:Rs Φ m as xs.toList) (h':Rs Φ m cs ys.toList):R Φ m (.func f as cs) (.func (.func f) xs ys):=
 .func (by simpa using h.1) (by simpa using h'.1) (fun j v x hv hx=>h.at hv (by simpa using hx)) (fun j v x hv hx=>h'.at hv (by simpa using hx))
theorem oneCell_cells {x:Value} (h:x.oneCell'=true):x.cells= #[x]:=by cases x<;>simp_all[Value.cells,Value.oneCell']
theorem R.one {Φ:Phi} {m:LMap} {v:AV} {x:Value} (h:R Φ m v x) (hv:isOneCell v=true):x.cells= #[x]∧x.oneCell'=true:=by
 by_cases hr:∃y,v= .raw y
 ·obtain⟨y,rfl⟩:=hr
  cases h with
  |raw hx=>exact⟨oneCell_cells hx,hx⟩
 ·cases h<;>simp_all[isOneCell,Value.cells,Value.oneCell']
theorem R.cells {Φ:Phi} {m:LMap} {v:AV} {x:Value} (h:R Φ m v x) (hv:v≠ .top):Rs Φ m v.cells x.cells.toList:=by
 cases h with
 |agg h1 h2=>exact Rs.mk' (by simpa[AV.cells,Value.cells]using h1) fun j v x hv hx=>h2 j v x (by simpa[AV.cells]using hv) (by simpa[Value.cells]using hx)
 |top=>exact absurd rfl hv
 |raw h=>rw[oneCell_cells h];exact .cons (.raw h) .nil
 |bool b=>exact .cons (.bool b) .nil
 |int k n=>exact .cons (.int k n) .nil
 |str h=>exact .cons (.str h) .nil
 |nilp=>exact .cons .nilp .nil
 |nils=>exact .cons .nils .nil
 |nilf=>exact .cons .nilf .nil
 |nili=>exact .cons .nili .nil
 |iface h=>exact .cons (.iface h) .nil
 |func h1 h2 h3 h4=>exact .cons (.func h1 h2 h3 h4) .nil
 |tuple h1 h2=>exact .cons (.tuple h1 h2) .nil
 |tree0=>exact .cons .tree0 .nil
 |tree e f h1 h2 h3 h4 h5=>exact .cons (.tree e f h1 h2 h3 h4 h5) .nil
 |cptr f h1 h2=>exact .cons (.cptr f h1 h2) .nil
 |ref h=>exact .cons (.ref h) .nil
 |sref0=>exact .cons .sref0 .nil
 |sref h1 h2 h3 h4=>exact .cons (.sref h1 h2 h3 h4) .nil
theorem isOneCell_cells {v:AV} (h:isOneCell v=true):v.cells=[v]:=by cases v<;>simp_all[isOneCell,AV.cells]
theorem Site.eq_iff {a b:Site} :Site.eq a b=true↔a=b:=by cases a<;>cases b<;>simp[Site.eq]
theorem Site.eq_refl (a:Site):Site.eq a a=true:=Site.eq_iff.2 rfl
theorem Site.eq_ne {a b:Site} (h:a≠b):Site.eq a b=false:=by cases hh:Site.eq a b with|false=>rfl|true=>exact absurd (Site.eq_iff.1 hh) h
theorem hget_cons_same (H:Heap) (s:Site) (b:Blk):hget ((s,b)::H) s=some b:=by simp[hget,Site.eq_refl]
theorem hget_cons_ne (H:Heap) {s s':Site} (b:Blk) (h:s≠s'):hget ((s,b)::H) s'=hget H s':=by simp[hget,Site.eq_ne h]
theorem hget_hset_same {H:Heap} {s:Site} {b c:Blk} (h:hget H s=some b):hget (hset H s c) s=some c:=by
 induction H with
 |nil=>simp[hget]at h
 |cons p r ih=>
  obtain⟨a,d⟩:=p
  by_cases e:a=s
  ·subst e;simp[hset,hget,Site.eq_refl]
  ·simp only[hget,Site.eq_ne e,cond_false]at h
   simp[hset,hget,Site.eq_ne e,ih h]
theorem hget_hset_ne {H:Heap} {s s':Site} {c:Blk} (h:s≠s'):hget (hset H s c) s'=hget H s':=by
 induction H with
 |nil=>rfl
 |cons p r ih=>
  obtain⟨a,d⟩:=p
  by_cases e:a=s
  ·subst e;simp[hset,hget,Site.eq_refl,Site.eq_ne h]
  ·by_cases e':a=s'
   ·subst e';simp[hset,hget,Site.eq_refl,Site.eq_ne e]
   ·simp[hset,hget,Site.eq_ne e,Site.eq_ne e',ih]
def Blk.live:Blk→Prop
 | .gone=>False
 |_=>True
structure BoxOk (Φ:Phi) (m:LMap) (w:World) (s:Site) (v:AV) (wr:Bool) (b:Nat) (e:Nat):Prop where
 loc:m s= .at b e (v.cells.length,0)
 shape:∃t,w.shape? b=some (t,v.cells.length)
 cell:∀j c,v.cells[j]? =some c→∃x,w.cell? ⟨b,j,none⟩=some x∧R Φ m c x
 nf:∀o,o<v.cells.length→w.frozen? ⟨b,o,none⟩=false
 phi:wr=true→∀o,Φ b o=none
structure RowOk (Φ:Phi) (m:LMap) (w:World) (s:Site) (e:Nat) (xs:List AV) (wr:Bool) (b size:Nat):Prop where
 loc:m s= .at b e (size,xs.length)
 pos:0<e
 len:xs.length*e≤size
 shape:∃t,w.shape? b=some (t,size)
 each:∀(i:Nat) (v:AV),xs[i]? =some v→v.cells.length=e
 cell:∀(i:Nat) (v:AV) (j:Nat) (c:AV),xs[i]? =some v→v.cells[j]? =some c→∃x,w.cell? ⟨b,i*e+j,none⟩=some x∧R Φ m0 c x
 nf:∀o,o<size∨1<e→w.frozen? ⟨b,o,none⟩=false
 phi:wr=true→∀o,Φ b o=none
 room:∀o,Φ b o≠none→o<xs.length*e
 one:∀(i:Nat) (v:AV),xs[i]? =some v→allOneCell v.cells=true
def BlkOk (Φ:Phi) (m:LMap) (w:World) (s:Site):Blk→Prop
 | .box v wr=>∃b e,BoxOk Φ m w s v wr b e
 | .row e xs wr _=>(m s= .none∧xs= [] ∧e=e)∨∃b size,RowOk Φ m w s e xs wr b size
 | .gone=>True
structure Inv (Φ:Phi) (m:LMap) (w:World) (H:Heap):Prop where
 phi:∀b o x,Φ b o=some x→w.cell? ⟨b,o,none⟩=some x
 blk:∀s B,hget H s=some B→BlkOk Φ m w s B
 map:∀s,hget H s=none→m s= .none
 inj:∀s s' B B' b e z e' z',hget H s=some B→hget H s'=some B'→B.live→B'.live→m s= .at b e z→m s'= .at b e' z'→s=s'
 lt:∀s b e z,m s= .at b e z→b<w.heap.size
structure Glob (Φg Φ₀:Phi) (i₀:LMap) (w₀:World) (Φ:Phi) (m:LMap) (w:World):Prop where
 phi:∀b o x,Φ₀ b o=some x→Φ b o=some x
 phiNew:∀b o,Φ b o≠none→Φ₀ b o=none→(∃i e z,i₀ (.inc i)= .at b e z)∨w₀.heap.size≤b
 inc:∀i b e z,i₀ (.inc i)= .at b e z→m (.inc i)= .at b e z
 own:∀s b e z,m s= .at b e z→(∃i e z,i₀ (.inc i)= .at b e z)∨w₀.heap.size≤b
 same:∀b,b<w₀.heap.size→(∀i e z,i₀ (.inc i)≠ .at b e z)→w.heap[b]? =w₀.heap[b]?
 size:w₀.heap.size≤w.heap.size
 os:w.os=w₀.os
 out:w.output=w₀.output
 tape:w.tape=w₀.tape
 base:∀b o x,Φg b o=some x→Φ₀ b o=some x
def RT (Φ:Phi) (m:LMap) (T:Temps) (tmps:Array Value):Prop:=∀t v,tget T t=some v→∃x,tmps[t]? =some x∧R Φ m v x
theorem R.lit {Φ:Phi} {m:LMap} {v:Value} {x:AV} (h:ofLit v=some x):R Φ m x v:=by
 unfold ofLit at h
 split at h<;>(try cases h)<;>first
  |exact .bool _|exact .int _ _|exact .str rfl|exact .nilp|exact .nils|exact .nilf|exact .nili
theorem R.lits {Φ:Phi} {m:LMap} :∀ {vs:List Value} {xs:List AV},ofLits vs=some xs→Rs Φ m xs vs
 | [],xs,h=>by simp[ofLits]at h;subst h;exact .nil
 |v::r,xs,h=>by
  simp only[ofLits]at h
  split at h
  ·rename_i x hx
   split at h
   ·rename_i ys hy
    cases h
    exact .cons (.lit hx) (R.lits hy)
   ·cases h
  ·cases h
theorem R.value {Φ:Phi} {m:LMap} {v:Value} {x:AV} (h:ofValue v=some x):R Φ m x v:=by
 unfold ofValue at h
 split at h
 ·split at h
  ·rename_i l hl;cases h;exact .aggs (R.lits hl)
  ·cases h
 ·exact .lit h
theorem opnd_eval {Φ:Phi} {m:LMap} {s:St} {a:Act} {x:Operand} {v:AV} (hT:RT Φ m s.T a.tmps) (h:opnd s x=some v):R Φ m v (a.eval x):=by
 cases x with
 |tmp t=>
  obtain⟨y,hy,hr⟩:=hT t v h
  simp only[Act.eval,Array.getD_eq_getD_getElem?,hy,Option.getD_some];exact hr
 |const c=>exact .value h
 |global g=>cases h
 |func f=>simp only[opnd,Option.some.injEq]at h;subst h;exact R.funcs (by simpa using Rs.nil) (by simpa using Rs.nil)
theorem opnds_eval {Φ:Phi} {m:LMap} {s:St} {a:Act} (hT:RT Φ m s.T a.tmps):∀ {xs:List Operand} {vs:List AV},opnds s xs=some vs→Rs Φ m vs (xs.map a.eval)
 | [],vs,h=>by simp[opnds]at h;subst h;exact .nil
 |x::r,vs,h=>by
  simp only[opnds]at h
  split at h
  ·rename_i v hv
   split at h
   ·rename_i ws hw
    cases h
    exact .cons (opnd_eval hT hv) (opnds_eval hT hw)
   ·cases h
  ·cases h
end Go.Ab
namespace Go.Ab
open Go
def ShOk (d:TypeDesc) (ti:TI):Prop:=
 match ti.desc with
 | .struct=>∃fs,d= .struct fs∧∀(i o t:Nat),ti.fields[i]? =some (o,t)→∃f,fs[i]? =some f∧f.offset=o∧f.type=t
 | .array n e=>d= .array n e∧∀(i o t:Nat),ti.fields[i]? =some (o,t)→t=e
 | .slice e=>d= .slice e
 | .int k=>d= .int k
 | .bool=>d= .bool
 | .string=>d= .string
 | .pointer e=>d= .pointer e
 | .iface=>∃ms,d= .interface ms
 | .other=>(∀fs,d≠ .struct fs)∧(∀n e,d≠ .array n e)∧(∀ms,d≠ .interface ms)
structure TabOK (P:Program) (tab:Tab):Prop where
 info:∀t ti,tab.get t=some ti→∃i d,P.info? t=some i∧i.size=ti.sz∧i.bytes=ti.bytes∧P.underlying t=some d∧ShOk d ti∧
  (ti.agg=true↔(∃fs,d= .struct fs)∨(∃n e,d= .array n e))∧(∀z,ti.zero=some z→∃v,i.zero=some v∧ofValue v=some z)∧
  (∀n e,d= .array n e→∃te,tab.get e=some te∧∀(j o u:Nat),ti.fields[j]? =some (o,u)→o=j*te.sz∧u=e)∧
  (∀fs,d= .struct fs→ti.fields.length=fs.size∧∀(i:Nat) (f:Field),fs[i]? =some f→ti.fields[i]? =some (f.offset,f.type)∧∃fi,tab.get f.type=some fi)
 eqs:∀t ti fs,tab.get t=some ti→ti.cmp=true→P.underlying t=some (.struct fs)→P.stoodInHeld t=false∧P.eqGuardType P.depth t=false∧∀f∈fs.toList,f.name≠ "_"
 eqa:∀t ti l e,tab.get t=some ti→ti.cmp=true→P.underlying t=some (.array l e)→P.eqGuardType P.depth t=false
 cmp:∀t ti,tab.get t=some ti→ti.cmp=true→∃i,P.info? t=some i∧i.comparable=true
section
variable {Φg:Phi} {α:Type} {X:Ctx} {fid:FuncId} {P:Program} {n:Nat} {draw:Bool} {s:St} {o:Oper} {k:Script→DT α} {Q:α→Prop} {a:Act} {w w₀:World}
 {Φ Φ₀:Phi} {m i₀:LMap} {Qx:Exit→Act→World→Prop}
def KeepOn (Φ:Phi) (m:LMap) (rd:Acc) (w w':World):Prop:=
 (∀b o x,Φ b o=some x→w'.cell? ⟨b,o,none⟩=some x)∧∀s r,(s,r)∈rd→∀b e z,m s= .at b e z→∀o,w'.cell? ⟨b,o,none⟩=w.cell? ⟨b,o,none⟩
def Stays (m:LMap) (fx:List Fx) (w w':World):Prop:=∀b,b<w.heap.size→(∀s,s∈fxHit fx→∀e z,m s≠ .at b e z)→w'.heap[b]? =w.heap[b]?
def Silent (P:Program) (o:Oper) (a:Act) (Φ:Phi) (m:LMap) (sc:Script) (w w':World) (x:Value):Prop:=
 sc.fx= [] →w'=w∧∀w1,KeepOn Φ m sc.rd w w1→(execOp a.eval o).run P w1= .ok (.value x) w1
def After (P:Program) (Φg:Phi) (X:Ctx) (fid:FuncId) (n:Nat) (k:Script→DT α) (Q:α→Prop) (Φ₀:Phi) (i₀:LMap) (w₀:World) (o:Oper) (s:St) (a:Act) (w:World) (Φ:Phi) (m:LMap):Act→World→Prop:=
 fun a' w'=>∃Φ' m' sc x,SatN X fid n (k sc) Q∧R Φ' m' sc.v x∧a'=a.put o.dst x∧Ext Φ m Φ' m'∧Inv Φ' m' w' (fxApp s.H sc.fx)∧Glob Φg Φ₀ i₀ w₀ Φ' m' w'∧
  Stays m sc.fx w w'∧Silent P o a Φ m sc w w' x
theorem KeepOn.refl {H:Heap} {rd:Acc} (hI:Inv Φ m w H):KeepOn Φ m rd w w:=⟨hI.phi,fun _ _ _ _ _ _ _ _=>rfl⟩
theorem pure_ok {v:AV} {x:Value} {rd:Acc} (hrun:∀w1,KeepOn Φ m rd w w1→(execOp a.eval o).run P w1= .ok (.value x) w1) (hr:R Φ m v x) (hs:SatN X fid n (k ⟨v,[],rd⟩) Q)
  (hI:Inv Φ m w s.H) (hG:Glob Φg Φ₀ i₀ w₀ Φ m w):o.wp P a w (After P Φg X fid n k Q Φ₀ i₀ w₀ o s a w Φ m) Qx:=by
 unfold Oper.wp
 rw[hrun w (KeepOn.refl hI)]
 exact⟨Φ,m,⟨v,[],rd⟩,x,hs,hr,rfl,Ext.refl _ _,hI,hG,fun _ _ _=>rfl,fun _=>⟨rfl,hrun⟩⟩
theorem SatN.no_fail {c:Nat} (h:SatN X fid n (.fail c:DT α) Q):False:=by cases h
theorem op_move {x:Operand} (hop:o.op= .move x) (h:SatN X fid n (opR X.cfg draw s o k) Q) (hT:RT Φ m s.T a.tmps)
  (hI:Inv Φ m w s.H) (hG:Glob Φg Φ₀ i₀ w₀ Φ m w):o.wp P a w (After P Φg X fid n k Q Φ₀ i₀ w₀ o s a w Φ m) Qx:=by
 unfold opR at h
 rw[hop]at h
 dsimp only at h
 split at h
 ·rename_i v hv
  refine pure_ok (x:=a.eval x) ?_ (opnd_eval hT hv) h hI hG
  intro w1 _
  simp[execOp,hop]
 ·exact h.no_fail.elim
theorem op_assign {x:Operand} (hop:o.op= .assign x) (h:SatN X fid n (opR X.cfg draw s o k) Q) (hT:RT Φ m s.T a.tmps)
  (hI:Inv Φ m w s.H) (hG:Glob Φg Φ₀ i₀ w₀ Φ m w):o.wp P a w (After P Φg X fid n k Q Φ₀ i₀ w₀ o s a w Φ m) Qx:=by
 unfold opR at h
 rw[hop]at h
 dsimp only at h
 split at h
 ·rename_i v hv
  refine pure_ok (x:=a.eval x) ?_ (opnd_eval hT hv) h hI hG
  intro w1 _
  simp[execOp,hop]
 ·exact h.no_fail.elim
theorem op_pick {c x y:Operand} (hop:o.op= .pick c x y) (h:SatN X fid n (opR X.cfg draw s o k) Q) (hT:RT Φ m s.T a.tmps)
  (hI:Inv Φ m w s.H) (hG:Glob Φg Φ₀ i₀ w₀ Φ m w):o.wp P a w (After P Φg X fid n k Q Φ₀ i₀ w₀ o s a w Φ m) Qx:=by
 unfold opR at h
 rw[hop]at h
 dsimp only at h
 split at h
 ·rename_i b hb
  have hc:=opnd_eval hT hb
  generalize hec:a.eval c=ec at hc
  cases hc
  cases h with
  |nodeT hb' h=>
   subst hb'
   split at h
   ·rename_i v hv
    refine pure_ok (x:=a.eval x) ?_ (opnd_eval hT hv) h hI hG
    intro w1 _
    simp[execOp,hop,hec,asBool]
   ·exact h.no_fail.elim
  |nodeF hb' h=>
   subst hb'
   split at h
   ·rename_i v hv
    refine pure_ok (x:=a.eval y) ?_ (opnd_eval hT hv) h hI hG
    intro w1 _
    simp[execOp,hop,hec,asBool]
   ·exact h.no_fail.elim
 ·exact h.no_fail.elim
theorem spine_eq {β:Type} :∀(l:List AV) (k:List AV→β),spine l k=k l
 | [],_=>rfl
 |v::r,k=>by simp only[spine];exact spine_eq r _
mutual
theorem frc_eq {β:Type} :∀(v:AV) (k:AV→β),frc v k=k v
 | .agg cs,k=>by unfold frc;cases AV.hasRef (.agg cs)<;>simp[frcs_eq]
 | .tuple cs,k=>by unfold frc;cases AV.hasRef (.tuple cs)<;>simp[frcs_eq]
 | .iface t v,k=>by unfold frc;cases AV.hasRef (.iface t v)<;>simp[frc_eq v]
 | .func f as cs,k=>by unfold frc;cases AV.hasRef (.func f as cs)<;>simp[frcs_eq]
 | .ref ..,k=>by unfold frc;simp[AV.hasRef]
 | .sref ..,k=>by unfold frc;simp[AV.hasRef]
 | .nils,k=>by unfold frc;simp[AV.hasRef]
 | .top,k=>by unfold frc;simp[AV.hasRef]
 | .raw _,k=>by unfold frc;simp[AV.hasRef]
 | .bool _,k=>by unfold frc;simp[AV.hasRef]
 | .int _ _,k=>by unfold frc;simp[AV.hasRef]
 | .str _,k=>by unfold frc;simp[AV.hasRef]
 | .nilp,k=>by unfold frc;simp[AV.hasRef]
 | .nilf,k=>by unfold frc;simp[AV.hasRef]
 | .nili,k=>by unfold frc;simp[AV.hasRef]
 | .tree _,k=>by unfold frc;simp[AV.hasRef]
 | .cptr _,k=>by unfold frc;simp[AV.hasRef]
theorem frcs_eq {β:Type} :∀(l:List AV) (k:List AV→β),frcs l k=k l
 | [],_=>by unfold frcs;rfl
 |v::r,k=>by unfold frcs;rw[frc_eq v,frcs_eq r]
end
theorem frcB_eq {β:Type} (b:Blk) (k:Blk→β):frcB b k=k b:=by cases b<;>simp[frcB,frc_eq]
theorem frcBs_eq {β:Type} :∀(l:List Blk) (k:List Blk→β),frcBs l k=k l
 | [],_=>rfl
 |b::r,k=>by simp only[frcBs,frcB_eq];exact frcBs_eq r _
theorem frcH_eq {β:Type} :∀(H:Heap) (k:Heap→β),frcH H k=k H
 | [],_=>rfl
 |(a,b)::r,k=>by simp only[frcH,frcB_eq];exact frcH_eq r _
theorem frcS_eq {β:Type} :∀(l:List Site) (k:List Site→β),frcS l k=k l
 | [],_=>rfl
 |a::r,k=>by cases a<;>simp only[frcS]<;>exact frcS_eq r _
theorem hsetK_eq {β:Type} (s:Site) (c:Blk):∀(H:Heap) (k:Heap→β),hsetK H s c k=k (hset H s c)
 | [],_=>rfl
 |(a,b)::r,k=>by
  simp only[hsetK,hset]
  cases Site.eq a s
  ·simp only[cond_false];exact hsetK_eq s c r _
  ·rfl
theorem Fx.appK_eq {β:Type} (H:Heap) (f:Fx) (k:Heap→β):f.appK H k=k (f.app H):=by
 cases f with
 |alloc s b=>rfl
 |setBox s o cs=>
  simp only[Fx.appK,Fx.app]
  split
  ·rename_i v wr _
   split
   ·rw[spine_eq,hsetK_eq];rfl
   ·split
    ·rw[hsetK_eq];congr 2;unfold setPart;split<;>simp_all
    ·rw[hsetK_eq];congr 2;unfold setPart
     split
     ·simp_all
     ·split<;>simp_all
  ·rfl
 |setVar s m v=>simp only[Fx.appK,Fx.app];split<;>simp[hsetK_eq]
 |setRow s i v=>simp only[Fx.appK,Fx.app];split<;>simp[hsetK_eq]
 |setBlk s b=>simp[Fx.appK,Fx.app,hsetK_eq]
 |drop s=>simp[Fx.appK,Fx.app,hsetK_eq]
 |frz s=>simp only[Fx.appK,Fx.app];split<;>simp[hsetK_eq]
 |step=>rfl
theorem fxAppK_eq {β:Type} :∀(fx:List Fx) (H:Heap) (k:Heap→β),fxAppK H fx k=k (fxApp H fx)
 | [],_,_=>rfl
 |f::r,H,k=>by simp only[fxAppK,Fx.appK_eq,fxApp];exact fxAppK_eq r _ k
theorem TabOK.get {tab:Tab} (h:TabOK P tab) {t:TypeId} {ti:TI} (ht:tab.get t=some ti):
 ∃i d,P.info? t=some i∧i.size=ti.sz∧i.bytes=ti.bytes∧P.underlying t=some d∧ShOk d ti∧
  (ti.agg=true↔(∃fs,d= .struct fs)∨(∃n e,d= .array n e))∧(∀z,ti.zero=some z→∃v,i.zero=some v∧ofValue v=some z)∧
  (∀n e,d= .array n e→∃te,tab.get e=some te∧∀(j o u:Nat),ti.fields[j]? =some (o,u)→o=j*te.sz∧u=e)∧
  (∀fs,d= .struct fs→ti.fields.length=fs.size∧∀(i:Nat) (f:Field),fs[i]? =some f→ti.fields[i]? =some (f.offset,f.type)∧∃fi,tab.get f.type=some fi):=h.info t ti ht
theorem run_under {t:TypeId} {d:TypeDesc} (h:P.underlying t=some d) (w:World):(underlying t).run P w= .ok d w:=by
 simp[underlying,h]
theorem run_info {t:TypeId} {i:TypeInfo} (h:P.info? t=some i) (w:World):(typeInfo t).run P w= .ok i w:=by
 simp[typeInfo,h]
theorem run_size {t:TypeId} {i:TypeInfo} (h:P.info? t=some i) (w:World):(sizeOf t).run P w= .ok i.size w:=by
 simp[sizeOf,run_info h]
theorem run_agg {t:TypeId} {d:TypeDesc} {b:Bool} (h:P.underlying t=some d) (hb:b=true↔(∃fs,d= .struct fs)∨(∃n e,d= .array n e)) (w:World):
  (isAgg t).run P w= .ok b w:=by
 unfold isAgg
 rw[Sem.run_bind,run_under h,Result.andThen_ok]
 cases d<;>simp_all
theorem addr_add (b o n:Nat):Addr.add ⟨b,o,none⟩ n=⟨b,o+n,none⟩:=by
 unfold Addr.add;split<;>simp_all
def Lies (Φ:Phi) (m:LMap) (C:Phi) (b off:Nat) (l:List AV):Prop:=∀j c,l[j]? =some c→∃x,C b (off+j)=some x∧R Φ m c x
def cellsOf (w:World):Phi:=fun b o=>w.cell? ⟨b,o,none⟩
theorem Lies.list {b off:Nat} {l:List AV} {C:Phi} (h:Lies Φ m C b off l):∃xs:List Value,Rs Φ m l xs∧∀j x,xs[j]? =some x→C b (off+j)=some x:=by
 induction l generalizing off with
 |nil=>exact⟨[],.nil,fun j x hx=>by simp at hx⟩
 |cons c r ih=>
  obtain⟨x,hx,hr⟩:=h 0 c rfl
  obtain⟨xs,h1,h2⟩:=ih (off:=off+1) (fun j c hc=>by
   obtain⟨y,hy,hyr⟩:=h (j+1) c (by simpa using hc)
   exact⟨y,by rw[show off+1+j=off+(j+1)by omega];exact hy,hyr⟩)
  refine⟨x::xs,.cons hr h1,fun j y hy=> ?_⟩
  cases j with
  |zero=>simp at hy;subst hy;exact hx
  |succ j=>rw[show off+(j+1)=off+1+j by omega];exact h2 j y (by simpa using hy)
theorem Lies.drop {b off o:Nat} {l:List AV} {C:Phi} (h:Lies Φ m C b off l):Lies Φ m C b (off+o) (l.drop o):=fun j c hc=>by
 rw[List.getElem?_drop]at hc
 obtain⟨x,hx,hr⟩:=h (o+j) c hc
 exact⟨x,by rw[Nat.add_assoc];exact hx,hr⟩
theorem Lies.take {b off o:Nat} {l:List AV} {C:Phi} (h:Lies Φ m C b off l):Lies Φ m C b off (l.take o):=fun j c hc=>by
 rw[List.getElem?_take]at hc
 split at hc
 ·exact h j c hc
 ·cases hc
theorem run_loadList {b off:Nat} {xs:List Value} (h:∀j x,xs[j]? =some x→w.cell? ⟨b,off+j,none⟩=some x):(loadCells ⟨b,off,none⟩ xs.length).run P w= .ok xs.toArray w:=
 run_loadCells_list w ⟨b,off,none⟩ xs (fun j x hx=>by rw[addr_add];exact h j x hx)
theorem load_ok {tab:Tab} (hP:TabOK P tab) {cfg:Cfg} (hc:cfg.tab=tab) {t:TypeId} {v:AV} {b off o:Nat} {C:Phi} {q:AV→DT α} (h:SatN X fid n (partD cfg t v o q) Q) (hl:Lies Φ m C b off v.cells):
  ∃v' x',SatN X fid n (q v') Q∧R Φ m v' x'∧∀w,(∀o x,C b o=some x→w.cell? ⟨b,o,none⟩=some x)→(Instr.loadAt t (.pointer (some ⟨b,off+o,none⟩))).run P w= .ok x' w:=by
 unfold partD at h
 split at h
 ·rename_i ti hti
  obtain⟨i,d,hi,hsz,_,hu,hsh,hag,_⟩:=hP.get (hc▸hti)
  have hrun:∀w x',(loadVar t ⟨b,off+o,none⟩).run P w= .ok x' w→(Instr.loadAt t (.pointer (some ⟨b,off+o,none⟩))).run P w= .ok x' w:=fun w x' hx=>by
   simp[Instr.loadAt,Instr.sureAddr,hx]
  cases hagg:ti.agg with
  |true=>
   rw[hagg]at h
   simp only[cond_true]at h
   have key:∀cs:List AV,cs.length=ti.sz→Lies Φ m C b (off+o) cs→∃x',R Φ m (.agg cs) x'∧∀w,(∀o x,C b o=some x→w.cell? ⟨b,o,none⟩=some x)→(Instr.loadAt t (.pointer (some ⟨b,off+o,none⟩))).run P w= .ok x' w:=by
    intro cs hlen hcs
    obtain⟨xs,h1,h2⟩:=hcs.list
    refine⟨.agg xs.toArray,.aggs (by simpa using h1),fun w hw=>hrun _ _ ?_⟩
    unfold loadVar
    rw[Sem.run_bind,run_agg hu (by rw[←hag,hagg]) w,Result.andThen_ok]
    simp only[if_true,Sem.run_bind,run_size hi,Result.andThen_ok]
    rw[hsz,←hlen,h1.1,run_loadList fun j x hx=>hw _ _ (h2 j x hx)]
    rfl
   cases hb:(Nat.beq o 0&&Nat.beq ti.sz v.cells.length)with
   |true=>
    rw[hb]at h
    simp only[cond_true]at h
    simp only[Bool.and_eq_true,Nat.beq_eq]at hb
    split at h
    ·rename_i cs
     obtain⟨rfl,hz⟩:=hb
     obtain⟨x',h1,h2⟩:=key cs hz.symm (by simpa[AV.cells]using hl)
     exact⟨_,x',h,h1,h2⟩
    ·exact h.no_fail.elim
   |false=>
    rw[hb]at h
    simp only[cond_false]at h
    cases hb2:Nat.ble (o+ti.sz) v.cells.length with
    |true=>
     rw[hb2]at h
     simp only[cond_true,spine_eq]at h
     have hle:=Nat.le_of_ble_eq_true hb2
     obtain⟨x',h1,h2⟩:=key ((v.cells.drop o).take ti.sz) (by simp;omega) hl.drop.take
     exact⟨_,x',h,h1,h2⟩
    |false=>rw[hb2]at h;exact h.no_fail.elim
  |false=>
   rw[hagg]at h
   simp only[cond_false]at h
   split at h
   ·rename_i c r hcr
    cases hone:isOneCell c with
    |false=>rw[hone]at h;exact h.no_fail.elim
    |true=>
    rw[hone]at h
    obtain⟨x,hx,hr⟩:=hl.drop (o:=o) 0 c (by rw[hcr];rfl)
    refine⟨c,x,h,hr,fun w hw=>hrun _ _ ?_⟩
    unfold loadVar
    rw[Sem.run_bind,run_agg hu (by rw[←hag,hagg]) w,Result.andThen_ok]
    simp only[Bool.false_eq_true,if_false,run_load]
    rw[Nat.add_zero]at hx
    rw[hw _ _ hx]
   ·exact h.no_fail.elim
 ·exact h.no_fail.elim
theorem BoxOk.lies {st:Site} {v:AV} {wr:Bool} {b e:Nat} (h:BoxOk Φ m w st v wr b e):Lies Φ m (cellsOf w) b 0 v.cells:=fun j c hc=>by
 obtain⟨x,hx,hr⟩:=h.cell j c hc
 exact⟨x,by rw[Nat.zero_add];exact hx,hr⟩
theorem Ext.of0 {Φ:Phi} {m:LMap} :Ext Φ m0 Φ m:=⟨fun _ _ _ h=>h,fun _ _ _ _ h=>by cases h⟩
theorem RowOk.lies {st:Site} {e:Nat} {xs:List AV} {wr:Bool} {b size:Nat} (h:RowOk Φ m w st e xs wr b size) {i:Nat} {v:AV} (hv:xs[i]? =some v):Lies Φ m (cellsOf w) b (i*e) v.cells:=fun j c hc=>by
 obtain⟨x,hx,hr⟩:=h.cell i v j c hv hc
 exact⟨x,hx,hr.mono Ext.of0⟩
theorem loadD_ok {tab:Tab} (hP:TabOK P tab) {cfg:Cfg} (hc:cfg.tab=tab) {t:TypeId} {p:AV} {x:Value} (hI:Inv Φ m w s.H) (hp:R Φ m p x) (h:SatN X fid n (loadD cfg s t p k) Q):
  ∃v' x' rd,SatN X fid n (k ⟨v',[],rd⟩) Q∧R Φ m v' x'∧∀w1,KeepOn Φ m rd w w1→(Instr.loadAt t x).run P w1= .ok x' w1:=by
 unfold loadD at h
 split at h
 ·rename_i v
  cases hp with
  |cptr f h1 h2=>
   rename_i b off
   obtain⟨v',x',h3,h4,h5⟩:=load_ok hP hc h (b:=b) (off:=off) (C:=Φ) (fun j c hc=>⟨f j,h1 j c hc,(h2 j c hc).mono Ext.of0⟩)
   exact⟨v',x',_,h3,h4,fun w1 hk=>by simpa using h5 w1 fun o x hx=>hk.1 b o x hx⟩
 ·rename_i st i o
  cases hp with
  |ref hm=>
   rename_i b esz size
   have keep:∀ {r:Option (Nat×Nat)} {rd:Acc} (w1:World),KeepOn Φ m ((st,r)::rd) w w1→∀o x,cellsOf w b o=some x→w1.cell? ⟨b,o,none⟩=some x:=fun w1 hk o x hx=>by
    rw[hk.2 st _ (List.mem_cons_self ..) _ _ _ hm o];exact hx
   split at h
   ·rename_i v wr hg
    have hb:=hI.blk st _ hg
    obtain⟨b',e',hb⟩:=hb
    have hl:=hb.loc
    rw[hm]at hl
    cases hl
    split at h
    ·obtain⟨v',x',h3,h4,h5⟩:=load_ok hP hc h hb.lies
     refine⟨v',x',_,h3,h4,fun w1 hk=> ?_⟩
     simpa using h5 w1 (keep w1 hk)
    ·exact h.no_fail.elim
   ·rename_i e xs wr rm hg
    rcases hI.blk st _ hg with⟨hn,_⟩|⟨b',size',hb⟩
    ·rw[hm]at hn;cases hn
    ·have hl:=hb.loc
     rw[hm]at hl
     cases hl
     cases h with
     |elem hv h=>
      obtain⟨v',x',h3,h4,h5⟩:=load_ok hP hc h (hb.lies hv)
      exact⟨v',x',_,h3,h4,fun w1 hk=>h5 w1 (keep w1 hk)⟩
   ·exact h.no_fail.elim
 ·exact h.no_fail.elim
variable {tab:Tab}
theorem gopnd_eval {cfg:Cfg} (hgl:∀g v,cfg.glob g=some v→R Φg m0 (.cptr v) (.pointer (some ⟨g,0,none⟩))) (hT:RT Φ m s.T a.tmps) (hG:Glob Φg Φ₀ i₀ w₀ Φ m w) {x:Operand} {v:AV} (h:gopnd cfg s x=some v):R Φ m v (a.eval x):=by
 unfold gopnd at h
 split at h
 ·rename_i g
  split at h
  ·rename_i v' hv
   cases h
   exact(hgl g v' hv).mono ⟨fun b o x h=>hG.phi _ _ _ (hG.base _ _ _ h),fun _ _ _ _ h=>(by cases h)⟩
  ·cases h
 ·exact opnd_eval hT h
theorem op_load (hgl:∀g v,X.cfg.glob g=some v→R Φg m0 (.cptr v) (.pointer (some ⟨g,0,none⟩))) (hP:TabOK P tab) (hX:X.cfg.tab=tab) {t:TypeId} {y:Operand} (hop:o.op= .load t y) (h:SatN X fid n (opR X.cfg draw s o k) Q) (hT:RT Φ m s.T a.tmps)
  (hI:Inv Φ m w s.H) (hG:Glob Φg Φ₀ i₀ w₀ Φ m w):o.wp P a w (After P Φg X fid n k Q Φ₀ i₀ w₀ o s a w Φ m) Qx:=by
 unfold opR at h
 rw[hop]at h
 dsimp only at h
 split at h
 ·rename_i p hp
  obtain⟨v',x',rd,h1,h2,h3⟩:=loadD_ok hP hX hI (gopnd_eval hgl hT hG hp) h
  refine pure_ok (x:=x') (rd:=rd) ?_ h2 h1 hI hG
  intro w1 hk
  simp[execOp,hop,h3 w1 hk]
 ·exact h.no_fail.elim
theorem op_nilCheck {y:Operand} (hop:o.op= .nilCheck y) (h:SatN X fid n (opR X.cfg draw s o k) Q) (hT:RT Φ m s.T a.tmps)
  (hI:Inv Φ m w s.H) (hG:Glob Φg Φ₀ i₀ w₀ Φ m w):o.wp P a w (After P Φg X fid n k Q Φ₀ i₀ w₀ o s a w Φ m) Qx:=by
 unfold opR at h
 rw[hop]at h
 dsimp only at h
 split at h
 ·exact h.no_fail.elim
 ·exact h.no_fail.elim
 ·exact h.no_fail.elim
 ·exact h.no_fail.elim
 ·exact h.no_fail.elim
 ·rename_i v h1 h2 h3 h4 h5 hv
  have hr:=opnd_eval hT hv
  generalize hx:a.eval y=x at hr
  refine pure_ok (x:=x) ?_ hr h hI hG
  intro w1 _
  simp only[execOp,hop,hx]
  cases hr<;>simp_all
 ·exact h.no_fail.elim
theorem op_makeInterface (hP:TabOK P tab) (hX:X.cfg.tab=tab) {t:TypeId} {y:Operand} (hop:o.op= .makeInterface t y) (h:SatN X fid n (opR X.cfg draw s o k) Q) (hT:RT Φ m s.T a.tmps)
  (hI:Inv Φ m w s.H) (hG:Glob Φg Φ₀ i₀ w₀ Φ m w):o.wp P a w (After P Φg X fid n k Q Φ₀ i₀ w₀ o s a w Φ m) Qx:=by
 unfold opR at h
 rw[hop]at h
 dsimp only at h
 split at h
 ·rename_i v hv
  split at h
  ·rename_i ti hti
   obtain⟨i,d,hi,hsz,_,hu,hsh,hag,_⟩:=hP.get (hX▸hti)
   split at h
   ·exact h.no_fail.elim
   ·rename_i hd
    cases hb:(isOneCell v||allOneCell v.cells)with
    |false=>rw[hb]at h;exact h.no_fail.elim
    |true=>
     rw[hb]at h
     refine pure_ok (x:= .iface t (a.eval y)) ?_ (.iface (opnd_eval hT hv)) h hI hG
     intro w1 _
     simp only[execOp,hop,Instr.makeInterface]
     rw[Sem.run_bind,Sem.run_bind,run_under hu,Result.andThen_ok]
     unfold ShOk at hsh
     split at hsh
     ·obtain⟨fs,rfl,_⟩:=hsh;simp
     ·obtain⟨rfl,_⟩:=hsh;simp
     ·subst hsh;simp
     ·subst hsh;simp
     ·subst hsh;simp
     ·subst hsh;simp
     ·subst hsh;simp
     ·simp_all
     ·obtain⟨_,_,h3⟩:=hsh
      cases d<;>simp_all
  ·exact h.no_fail.elim
 ·exact h.no_fail.elim
theorem op_makeFunc {f:FuncId} {as cs:Array Operand} (hop:o.op= .makeFunc (.func f) as cs) (h:SatN X fid n (opR X.cfg draw s o k) Q) (hT:RT Φ m s.T a.tmps)
  (hI:Inv Φ m w s.H) (hG:Glob Φg Φ₀ i₀ w₀ Φ m w):o.wp P a w (After P Φg X fid n k Q Φ₀ i₀ w₀ o s a w Φ m) Qx:=by
 unfold opR at h
 rw[hop]at h
 dsimp only at h
 split at h
 ·rename_i vs us hvs hus
  refine pure_ok (x:= .func (.func f) (as.map a.eval) (cs.map a.eval)) ?_ (R.funcs (by simpa using opnds_eval hT hvs) (by simpa using opnds_eval hT hus)) h hI hG
  intro w1 _
  simp[execOp,hop,Instr.makeFunc]
 ·exact h.no_fail.elim
theorem op_extract {y:Operand} {i:Nat} (hop:o.op= .extract y i) (h:SatN X fid n (opR X.cfg draw s o k) Q) (hT:RT Φ m s.T a.tmps)
  (hI:Inv Φ m w s.H) (hG:Glob Φg Φ₀ i₀ w₀ Φ m w):o.wp P a w (After P Φg X fid n k Q Φ₀ i₀ w₀ o s a w Φ m) Qx:=by
 unfold opR at h
 rw[hop]at h
 dsimp only at h
 split at h
 ·rename_i vs hvs
  split at h
  ·rename_i v hv
   obtain⟨xs,hx,hr⟩:=(opnd_eval hT hvs).tuple_inv
   obtain⟨x,hxi,hxr⟩:=hr.2 i v hv
   refine pure_ok (x:=x) ?_ hxr h hI hG
   intro w1 _
   simp only[execOp,hop,hx,Instr.extract]
   have:xs[i]? =some x:=by simpa using hxi
   simp[this]
  ·exact h.no_fail.elim
 ·exact h.no_fail.elim
end
end Go.Ab
namespace Go.Ab
open Go
section
variable {Φg:Phi} {α:Type} {X:Ctx} {fid:FuncId} {P:Program} {n:Nat} {draw:Bool} {s:St} {o:Oper} {k:Script→DT α} {Q:α→Prop} {a:Act} {w w₀:World}
 {Φ Φ₀:Phi} {m i₀:LMap} {Qx:Exit→Act→World→Prop} {tab:Tab}
theorem shOk_slice {d:TypeDesc} {ti:TI} {e:TypeId} (h:ShOk d ti) (he:ti.desc= .slice e):d= .slice e:=by
 unfold ShOk at h;rw[he]at h;exact h
theorem shOk_string {d:TypeDesc} {ti:TI} (h:ShOk d ti) (he:ti.desc= .string):d= .string:=by
 unfold ShOk at h;rw[he]at h;exact h
theorem shOk_array {d:TypeDesc} {ti:TI} {n:Nat} {e:TypeId} (h:ShOk d ti) (he:ti.desc= .array n e):d= .array n e:=by
 unfold ShOk at h;rw[he]at h;exact h.1
theorem field_ok (hP:TabOK P tab) {cfg:Cfg} (hc:cfg.tab=tab) {t:TypeId} {f off:Nat} {ft:TypeId} (h:fieldOf cfg t f=some (off,ft)) (hs:∀ti,tab.get t=some ti→ti.desc= .struct):
  ∃fs fl,P.underlying t=some (.struct fs)∧fs[f]? =some fl∧fl.offset=off∧fl.type=ft:=by
 unfold fieldOf at h
 split at h
 ·rename_i ti hti
  obtain⟨i,d,hi,hsz,_,hu,hsh,hag,_⟩:=hP.get (hc▸hti)
  unfold ShOk at hsh
  rw[hs ti (hc▸hti)]at hsh
  obtain⟨fs,rfl,hfs⟩:=hsh
  obtain⟨fl,h1,h2,h3⟩:=hfs f off ft h
  exact⟨fs,fl,hu,h1,h2,h3⟩
 ·cases h
theorem op_fieldAddr (hP:TabOK P tab) (hX:X.cfg.tab=tab) {t:TypeId} {y:Operand} {f:Nat} (hop:o.op= .fieldAddr t y f) (h:SatN X fid n (opR X.cfg draw s o k) Q) (hT:RT Φ m s.T a.tmps)
  (hI:Inv Φ m w s.H) (hG:Glob Φg Φ₀ i₀ w₀ Φ m w):o.wp P a w (After P Φg X fid n k Q Φ₀ i₀ w₀ o s a w Φ m) Qx:=by
 unfold opR at h
 rw[hop]at h
 dsimp only at h
 split at h
 ·rename_i ti hti
  cases hst:ti.desc with
  |struct=>
   rw[hst]at h
   dsimp only at h
   have hss:∀ti,tab.get t=some ti→ti.desc= .struct:=fun ti' h'=>by rw[hX]at hti;rw[hti]at h';cases h';exact hst
   have plain:∀(off:Nat) (ft:TypeId) (b c:Nat),fieldOf X.cfg t f=some (off,ft)→hasCells X.cfg ft=true→a.eval y= .pointer (some ⟨b,c,none⟩)→∀w:World,
     (execOp a.eval o).run P w= .ok (.value (.pointer (some ⟨b,c+off,none⟩))) w:=by
    intro off ft b c hf hcl hey w
    obtain⟨fs,fl,hu,h1,h2,h3⟩:=field_ok hP hX hf hss
    unfold hasCells at hcl
    split at hcl
    ·rename_i tf htf
     obtain⟨i',d',hi',hsz',_⟩:=hP.get (hX▸htf)
     have hpos:0<tf.sz:=by simpa using hcl
     simp only[execOp,hop,Instr.fieldAt,hey,Sem.run_bind,run_under hu,Result.andThen_ok]
     simp only[h1,Sem.run_bind,Instr.sureAddr,Sem.run_pure,Result.andThen_ok,fieldPlace,h3,run_size hi']
     rw[if_neg (by omega),h2]
     simp[addr_add]
    ·cases hcl
   split at h
   ·rename_i off ft st i oo hf hr
    have hre:=opnd_eval hT hr
    cases hcl:hasCells X.cfg ft with
    |false=>rw[hcl]at h;exact h.no_fail.elim
    |true=>
     rw[hcl]at h
     generalize hey:a.eval y=ey at hre
     cases hre with
     |ref hm=>
      refine pure_ok ?_ (.ref (o:=oo+off) hm) h hI hG
      intro w1 _
      rw[plain off ft _ _ hf hcl hey,Nat.add_assoc]
   ·rename_i off ft v hf hr
    have hre:=opnd_eval hT hr
    cases hcl:hasCells X.cfg ft with
    |false=>rw[hcl]at h;exact h.no_fail.elim
    |true=>
     rw[hcl]at h
     simp only[cond_true]at h
     generalize hey:a.eval y=ey at hre
     cases hre with
     |cptr g h1 h2=>
      rename_i b c
      unfold partD at h
      split at h
      ·rename_i tf htf
       have key:∀v':AV,SatN X fid n (pure1 (.cptr v') k) Q→(∀j cc,v'.cells[j]? =some cc→v.cells[off+j]? =some cc)→o.wp P a w (After P Φg X fid n k Q Φ₀ i₀ w₀ o s a w Φ m) Qx:=by
        intro v' hs hv
        refine pure_ok (fun w1 _=>plain off ft b c hf hcl hey w1) (.cptr (fun j=>g (off+j)) (fun j cc hj=> ?_) (fun j cc hj=> ?_)) hs hI hG
        ·rw[Nat.add_assoc];exact h1 _ _ (hv j cc hj)
        ·exact h2 _ _ (hv j cc hj)
       cases hag:tf.agg with
       |true=>
        rw[hag]at h
        simp only[cond_true]at h
        cases hb:(Nat.beq off 0&&Nat.beq tf.sz v.cells.length)with
        |true=>
         rw[hb]at h
         simp only[cond_true]at h
         simp only[Bool.and_eq_true,Nat.beq_eq]at hb
         obtain⟨rfl,_⟩:=hb
         split at h
         ·exact key _ h (fun j cc hj=>by simpa using hj)
         ·exact h.no_fail.elim
        |false=>
         rw[hb]at h
         simp only[cond_false]at h
         cases hb2:Nat.ble (off+tf.sz) v.cells.length with
         |true=>
          rw[hb2]at h
          simp only[cond_true,spine_eq]at h
          refine key _ h (fun j cc hj=> ?_)
          simp only[AV.cells]at hj
          rw[List.getElem?_take]at hj
          split at hj
          ·rwa [List.getElem?_drop]at hj
          ·cases hj
         |false=>rw[hb2]at h;exact h.no_fail.elim
       |false=>
        rw[hag]at h
        simp only[cond_false]at h
        split at h
        ·rename_i cc r hcr
         cases hone:isOneCell cc with
         |false=>rw[hone]at h;exact h.no_fail.elim
         |true=>
          rw[hone]at h
          have hone:=isOneCell_cells hone
          refine key cc h (fun j c' hj=> ?_)
          rw[hone]at hj
          cases j with
          |zero=>simp at hj;subst hj;have:(v.cells.drop off)[0]? =some cc:=by rw[hcr];rfl
                 rw[List.getElem?_drop]at this;exact this
          |succ j=>simp at hj
        ·exact h.no_fail.elim
      ·exact h.no_fail.elim
   ·exact h.no_fail.elim
  |_=>rw[hst]at h;exact h.no_fail.elim
 ·exact h.no_fail.elim
end
end Go.Ab
namespace Go.Ab
open Go
section
variable {Φg:Phi} {α:Type} {X:Ctx} {fid:FuncId} {P:Program} {n:Nat} {draw:Bool} {s:St} {o:Oper} {k:Script→DT α} {Q:α→Prop} {a:Act} {w w₀:World}
 {Φ Φ₀:Phi} {m i₀:LMap} {Qx:Exit→Act→World→Prop} {tab:Tab}
theorem Rs.drop {vs:List AV} {xs:List Value} (h:Rs Φ m vs xs) (o:Nat):Rs Φ m (vs.drop o) (xs.drop o):=
 Rs.mk' (by simp[h.1]) fun j v x hv hx=>by rw[List.getElem?_drop]at hv hx;exact h.at hv hx
theorem Rs.take {vs:List AV} {xs:List Value} (h:Rs Φ m vs xs) (o:Nat):Rs Φ m (vs.take o) (xs.take o):=
 Rs.mk' (by simp[h.1]) fun j v x hv hx=>by
  rw[List.getElem?_take]at hv hx
  split at hv
  ·rename_i hj;rw[if_pos hj]at hx;exact h.at hv hx
  ·cases hv
theorem partV_ok (hP:TabOK P tab) {cfg:Cfg} (hc:cfg.tab=tab) {t:TypeId} {cs:List AV} {ys:Array Value} {off:Nat} {q:AV→DT α} (h:SatN X fid n (partD cfg t (.agg cs) off q) Q) (hl:Rs Φ m cs ys.toList):
  ∃v' x',SatN X fid n (q v') Q∧R Φ m v' x'∧∀w:World,(part t ys off).run P w= .ok x' w:=by
 unfold partD at h
 split at h
 ·rename_i ti hti
  obtain⟨i,d,hi,hsz,_,hu,hsh,hag,_⟩:=hP.get (hc▸hti)
  have hlen:cs.length=ys.size:=by simpa using hl.1
  cases hagg:ti.agg with
  |true=>
   rw[hagg]at h
   simp only[cond_true]at h
   have key:∀w:World,(part t ys off).run P w= .ok (.agg (ys.extract off (off+ti.sz))) w:=by
    intro w
    unfold part
    rw[Sem.run_bind,run_agg hu (by rw[←hag,hagg]) w,Result.andThen_ok]
    simp[run_size hi,hsz]
   cases hb:(Nat.beq off 0&&Nat.beq ti.sz (AV.agg cs).cells.length)with
   |true=>
    rw[hb]at h
    simp only[cond_true]at h
    simp only[Bool.and_eq_true,Nat.beq_eq]at hb
    obtain⟨rfl,hz⟩:=hb
    refine⟨_,_,h, ?_,key⟩
    rw[Nat.zero_add,hz]
    simp only[AV.cells]
    rw[hlen,Array.extract_size]
    exact .aggs hl
   |false=>
    rw[hb]at h
    simp only[cond_false]at h
    cases hb2:Nat.ble (off+ti.sz) (AV.agg cs).cells.length with
    |true=>
     rw[hb2]at h
     simp only[cond_true,spine_eq]at h
     refine⟨_,_,h, ?_,key⟩
     refine .aggs ?_
     simp only[AV.cells,Array.toList_extract]
     rw[List.extract_eq_take_drop,Nat.add_sub_cancel_left]
     exact(hl.drop off).take ti.sz
    |false=>rw[hb2]at h;exact h.no_fail.elim
  |false=>
   rw[hagg]at h
   simp only[cond_false]at h
   split at h
   ·rename_i c r hcr
    cases hone:isOneCell c with
    |false=>rw[hone]at h;exact h.no_fail.elim
    |true=>
    rw[hone]at h
    have hc0:cs[off]? =some c:=by
     have:(cs.drop off)[0]? =some c:=by simp only[AV.cells]at hcr;rw[hcr];rfl
     rwa [List.getElem?_drop]at this
    obtain⟨x,hx,hr⟩:=hl.2 off c hc0
    have hx':ys[off]? =some x:=by simpa using hx
    refine⟨c,x,h,hr,fun w=> ?_⟩
    unfold part
    rw[Sem.run_bind,run_agg hu (by rw[←hag,hagg]) w,Result.andThen_ok]
    simp[hx']
   ·exact h.no_fail.elim
 ·exact h.no_fail.elim
theorem op_field (hP:TabOK P tab) (hX:X.cfg.tab=tab) {t:TypeId} {y:Operand} {f:Nat} (hop:o.op= .field t y f) (h:SatN X fid n (opR X.cfg draw s o k) Q) (hT:RT Φ m s.T a.tmps)
  (hI:Inv Φ m w s.H) (hG:Glob Φg Φ₀ i₀ w₀ Φ m w):o.wp P a w (After P Φg X fid n k Q Φ₀ i₀ w₀ o s a w Φ m) Qx:=by
 unfold opR at h
 rw[hop]at h
 dsimp only at h
 split at h
 ·rename_i ti hti
  cases hst:ti.desc with
  |struct=>
   rw[hst]at h
   dsimp only at h
   have hss:∀ti,tab.get t=some ti→ti.desc= .struct:=fun ti' h'=>by rw[hX]at hti;rw[hti]at h';cases h';exact hst
   split at h
   ·rename_i off ft cs hf hr
    obtain⟨xs,hx,hrs⟩:=(opnd_eval hT hr).agg_inv
    obtain⟨fs,fl,hu,h1,h2,h3⟩:=field_ok hP hX hf hss
    obtain⟨v',x',h4,h5,h6⟩:=partV_ok hP hX h hrs
    refine pure_ok (x:=x') ?_ h5 h4 hI hG
    intro w1 _
    simp only[execOp,hop,Instr.field,hx,Sem.run_bind,run_under hu,Result.andThen_ok,h1,asAgg,Sem.run_pure,h3,h2,h6]
   ·exact h.no_fail.elim
  |_=>rw[hst]at h;exact h.no_fail.elim
 ·exact h.no_fail.elim
theorem SatN.node_inv {c:Bool} {x:DT α} {r:Nat} (h:SatN X fid n (.node c x (.fail r)) Q):c=true∧SatN X fid n x Q:=by
 cases h with
 |nodeT hc h=>exact⟨hc,h⟩
 |nodeF hc h=>exact h.no_fail.elim
theorem op_indexAddr (hP:TabOK P tab) (hX:X.cfg.tab=tab) {t:TypeId} {y z:Operand} (hop:o.op= .indexAddr t y z) (h:SatN X fid n (opR X.cfg draw s o k) Q) (hT:RT Φ m s.T a.tmps)
  (hI:Inv Φ m w s.H) (hG:Glob Φg Φ₀ i₀ w₀ Φ m w):o.wp P a w (After P Φg X fid n k Q Φ₀ i₀ w₀ o s a w Φ m) Qx:=by
 unfold opR at h
 rw[hop]at h
 dsimp only at h
 split at h
 ·rename_i v kd i hv hi
  have hri:=opnd_eval hT hi
  generalize hez:a.eval z=ez at hri
  cases hri
  have hrv:=opnd_eval hT hv
  generalize hey:a.eval y=ey at hrv
  split at h
  ·rename_i sz_ ag_ et fl_ ze_ by_ cm_ hti
   obtain⟨ii,d,hii,hsz,_,hu,hsh,hag,_⟩:=hP.get (hX▸hti)
   have hd:=shOk_slice hsh rfl
   subst hd
   split at h
   ·rename_i te hte
    obtain⟨ie,de,hie,hsze,_⟩:=hP.get (hX▸hte)
    split at h
    ·obtain⟨h0,h⟩:=h.node_inv
     have h0:=of_decide_eq_true h0
     cases h with
     |elem hx h=>
      rename_i e
      (try dsimp only at h)
      cases hb:Nat.beq e.cells.length te.sz with
      |false=>rw[hb]at h;exact h.no_fail.elim
      |true=>
       rw[hb]at h
       simp only[Nat.beq_eq]at hb
       have hlt:=(List.getElem?_eq_some_iff.1 hx).1
       cases hrv with
       |tree0=>simp at hlt
       |tree esz f h1 h2 h3 h4 h5=>
        rename_i b off cap
        have hes:=h2 _ _ hx
        refine pure_ok (x:= .pointer (some ⟨b,off+i.toNat*esz,none⟩)) ?_ (.cptr (f i.toNat) (fun j c hc=>h3 _ _ _ _ hx hc) (fun j c hc=>h4 _ _ _ _ hx hc)) h hI hG
        intro w1 _
        simp only[execOp,hop,Instr.indexAt,hez,hey,asIntOf,Sem.run_bind,Sem.run_pure,Result.andThen_ok,run_under hu]
        rw[if_pos ⟨h0,by omega⟩]
        simp only[Sem.run_bind,run_size hie,Result.andThen_ok,Sem.run_pure,addr_add,hsze]
        rw[←hb,hes]
    ·split at h
     ·rename_i st lo len e xs wr rm hg
      cases hb:Nat.beq e te.sz with
      |false=>rw[hb]at h;exact h.no_fail.elim
      |true=>
       rw[hb]at h
       obtain⟨h0,h⟩:=h.node_inv
       obtain⟨h0,h0'⟩:=of_decide_eq_true h0
       split at h
       ·have he:e=te.sz:=by simpa using hb
        cases hrv with
        |sref0=>omega
        |sref hm h1 h2 h3=>
         rename_i cap b esz size
         rcases hI.blk _ _ hg with⟨hn,_⟩|⟨b',size',hr⟩
         ·rw[hm]at hn;cases hn
         ·have hl:=hr.loc
          rw[hm]at hl
          cases hl
          refine pure_ok (x:= .pointer (some ⟨b,i.toNat*e+0,none⟩)) ?_ (.ref hm) h hI hG
          intro w1 _
          simp only[execOp,hop,Instr.indexAt,hez,hey,asIntOf,Sem.run_bind,Sem.run_pure,Result.andThen_ok,run_under hu]
          rw[if_pos ⟨h0,h0'⟩]
          simp only[Sem.run_bind,run_size hie,Result.andThen_ok,Sem.run_pure,addr_add,hsze]
          rw[←he];simp
       ·exact h.no_fail.elim
     ·exact h.no_fail.elim
    ·exact h.no_fail.elim
   ·exact h.no_fail.elim
  ·rename_i sz_ ag_ ne et fl_ ze_ by_ cm_ hti
   obtain⟨ii,d,hii,hsz,_,hu,hsh,hag,_⟩:=hP.get (hX▸hti)
   have hd:=shOk_array hsh rfl
   subst hd
   split at h
   ·rename_i te hte
    obtain⟨ie,de,hie,hsze,_⟩:=hP.get (hX▸hte)
    have run:∀(b c j:Nat),i=(j:Int)→j<ne→ey= .pointer (some ⟨b,c,none⟩)→∀w:World,(execOp a.eval o).run P w= .ok (.value (.pointer (some ⟨b,c+j*te.sz,none⟩))) w:=by
     intro b c j hij hj hp w
     simp only[execOp,hop,Instr.indexAt,hez,hey,hp,asIntOf,Instr.sureAddr,Sem.run_bind,Sem.run_pure,Result.andThen_ok,run_under hu]
     rw[if_pos ⟨by omega,by omega⟩]
     simp only[Sem.run_bind,run_size hie,Result.andThen_ok,Sem.run_pure,addr_add,hsze]
     rw[hij];simp
    split at h
    ·cases h with
     |fin hij hj h=>
      (try dsimp only at h)
      rename_i st e oo j
      cases hrv with
      |ref hm=>
       refine pure_ok ?_ (.ref (o:=oo+j*te.sz) hm) h hI hG
       intro w1 _
       rw[run _ _ j hij hj rfl,Nat.add_assoc]
    ·cases h with
     |fin hij hj h=>
      (try dsimp only at h)
      rename_i v j
      cases hrv with
      |cptr g h1 h2=>
       rename_i b c
       have key:∀v':AV,SatN X fid n (pure1 (.cptr v') k) Q→(∀jj cc,v'.cells[jj]? =some cc→v.cells[j*te.sz+jj]? =some cc)→o.wp P a w (After P Φg X fid n k Q Φ₀ i₀ w₀ o s a w Φ m) Qx:=by
        intro v' hs hv
        refine pure_ok (fun w1 _=>run b c j hij hj rfl w1) (.cptr (fun jj=>g (j*te.sz+jj)) (fun jj cc hjj=> ?_) (fun jj cc hjj=> ?_)) hs hI hG
        ·rw[Nat.add_assoc];exact h1 _ _ (hv jj cc hjj)
        ·exact h2 _ _ (hv jj cc hjj)
       unfold partD at h
       split at h
       ·rename_i tf htf
        cases hag:tf.agg with
        |true=>
         rw[hag]at h
         simp only[cond_true]at h
         cases hb:(Nat.beq (j*te.sz) 0&&Nat.beq tf.sz v.cells.length)with
         |true=>
          rw[hb]at h
          simp only[cond_true]at h
          simp only[Bool.and_eq_true,Nat.beq_eq]at hb
          split at h
          ·exact key _ h (fun jj cc hjj=>by rw[hb.1,Nat.zero_add];exact hjj)
          ·exact h.no_fail.elim
         |false=>
          rw[hb]at h
          simp only[cond_false]at h
          cases hb2:Nat.ble (j*te.sz+tf.sz) v.cells.length with
          |true=>
           rw[hb2]at h
           simp only[cond_true,spine_eq]at h
           refine key _ h (fun jj cc hjj=> ?_)
           simp only[AV.cells]at hjj
           rw[List.getElem?_take]at hjj
           split at hjj
           ·rwa [List.getElem?_drop]at hjj
           ·cases hjj
          |false=>rw[hb2]at h;exact h.no_fail.elim
        |false=>
         rw[hag]at h
         simp only[cond_false]at h
         split at h
         ·rename_i cc r hcr
          cases hone:isOneCell cc with
          |false=>rw[hone]at h;exact h.no_fail.elim
          |true=>
           rw[hone]at h
           have hone:=isOneCell_cells hone
           refine key cc h (fun jj c' hjj=> ?_)
           rw[hone]at hjj
           cases jj with
           |zero=>simp at hjj;subst hjj;have:(v.cells.drop (j*te.sz))[0]? =some cc:=by rw[hcr];rfl
                  rw[List.getElem?_drop]at this;exact this
           |succ jj=>simp at hjj
         ·exact h.no_fail.elim
       ·exact h.no_fail.elim
    ·exact h.no_fail.elim
   ·exact h.no_fail.elim
  ·exact h.no_fail.elim
 ·exact h.no_fail.elim
theorem op_index (hP:TabOK P tab) (hX:X.cfg.tab=tab) {t:TypeId} {y z:Operand} (hop:o.op= .index t y z) (h:SatN X fid n (opR X.cfg draw s o k) Q) (hT:RT Φ m s.T a.tmps)
  (hI:Inv Φ m w s.H) (hG:Glob Φg Φ₀ i₀ w₀ Φ m w):o.wp P a w (After P Φg X fid n k Q Φ₀ i₀ w₀ o s a w Φ m) Qx:=by
 unfold opR at h
 rw[hop]at h
 dsimp only at h
 split at h
 ·rename_i v kd i hv hi
  have hri:=opnd_eval hT hi
  generalize hez:a.eval z=ez at hri
  cases hri
  have hrv:=opnd_eval hT hv
  generalize hey:a.eval y=ey at hrv
  split at h
  ·rename_i sz_ ag_ fl_ ze_ by_ cm_ hti
   obtain⟨ii,d,hii,hsz,_,hu,hsh,hag,_⟩:=hP.get (hX▸hti)
   have hd:=shOk_string hsh rfl
   subst hd
   split at h
   ·obtain⟨h0,h⟩:=h.node_inv
    have h0:=of_decide_eq_true h0
    cases h with
    |byte hx h=>
     (try dsimp only at h)
     rename_i bs c
     cases hrv with
     |str hs=>
      rename_i x
      refine pure_ok (x:= .int .u8 c.toNat) ?_ (.int _ _) h hI hG
      intro w1 _
      have hlt:i.toNat<x.size:=by have:=(List.getElem?_eq_some_iff.1 hx).1;rw[←hs]at this;simpa using this
      have hget:x[i.toNat]? =some c:=by
       rw[ByteArray.getElem?_lt' x _ hlt]
       have:x.data.toList[i.toNat]? =some x[i.toNat]:=by
        have h':i.toNat<x.data.size:=hlt
        rw[List.getElem?_eq_getElem (by simpa using h')];rfl
       rw[hs,hx]at this;exact this.symm
      simp only[execOp,hop,Instr.index,hez,hey,asIntOf,Sem.run_bind,Sem.run_pure,Result.andThen_ok,run_under hu]
      rw[if_pos h0,hget]
      simp
   ·exact h.no_fail.elim
  ·rename_i sz_ ag_ ne et fl_ ze_ by_ cm_ hti
   obtain⟨ii,d,hii,hsz,_,hu,hsh,hag,_⟩:=hP.get (hX▸hti)
   have hd:=shOk_array hsh rfl
   subst hd
   split at h
   ·rename_i cs
    split at h
    ·rename_i te hte
     obtain⟨ie,de,hie,hsze,_⟩:=hP.get (hX▸hte)
     cases h with
     |fin hij hj h=>
      (try dsimp only at h)
      rename_i j
      obtain⟨xs,rfl,hrs⟩:=hrv.agg_inv
      obtain⟨v',x',h4,h5,h6⟩:=partV_ok hP hX h hrs
      refine pure_ok (x:=x') ?_ h5 h4 hI hG
      intro w1 _
      simp only[execOp,hop,Instr.index,hez,hey,asIntOf,Sem.run_bind,Sem.run_pure,Result.andThen_ok,run_under hu]
      rw[if_pos ⟨by omega,by omega⟩]
      simp only[Sem.run_bind,run_size hie,Result.andThen_ok,hsze]
      rw[hij]
      simp only[Int.toNat_natCast,h6,Result.andThen_ok]
    ·exact h.no_fail.elim
   ·exact h.no_fail.elim
  ·exact h.no_fail.elim
 ·exact h.no_fail.elim
end
end Go.Ab
namespace Go.Ab
open Go
section
variable {Φg:Phi} {α:Type} {X:Ctx} {fid:FuncId} {P:Program} {n:Nat} {draw:Bool} {s:St} {o:Oper} {k:Script→DT α} {Q:α→Prop} {a:Act} {w w₀:World}
 {Φ Φ₀:Phi} {m i₀:LMap} {Qx:Exit→Act→World→Prop} {tab:Tab}
def optD (s:St) (lo:Option Operand):Option (Option AV):=match lo with|some y=>(match opnd s y with|some v=>some (some v)|none=>none)|none=>some none
def OptR (Φ:Phi) (m:LMap):Option AV→Option Value→Prop
 |none,none=>True
 |some v,some x=>R Φ m v x
 |_,_=>False
theorem optD_ok (hT:RT Φ m s.T a.tmps) {lo:Option Operand} {l:Option AV} (h:optD s lo=some l):OptR Φ m l (lo.map a.eval):=by
 unfold optD at h
 split at h
 ·rename_i y
  split at h
  ·rename_i v hv;cases h;exact opnd_eval hT hv
  ·cases h
 ·cases h;trivial
theorem run_bound {kd:IntKind} {i:Int} {y:Nat} (c:BoundsCode) (h0:0≤i) (h1:i≤y):(Instr.sliceBound (.int kd i) y c).run P w= .ok i.toNat w:=by
 simp[Instr.sliceBound,asIntOf,h0,h1]
def bnd (x:Option Value) (most dflt:Nat) (c:BoundsCode):Sem Nat:=
 match x with
 |some v=>Instr.sliceBound v most c
 |none=>pure dflt
theorem bounds_hi {x:Option Value} {v:Option AV} {most dflt cap:Nat} {q:Nat→DT α} (h:SatN X fid n (boundD v most dflt q) Q) (hr:OptR Φ m v x) (hm:most≤cap) (hd:dflt≤most):
  ∃h',h'≤most∧SatN X fid n (q h') Q∧(x=none→h'=dflt)∧∀(c:BoundsCode) (w:World),(bnd x cap dflt c).run P w= .ok h' w:=by
 cases v with
 |none=>
  cases x with
  |none=>exact⟨dflt,hd,h,fun _=>rfl,fun c w=>rfl⟩
  |some x=>exact hr.elim
 |some v=>
  cases x with
  |none=>exact hr.elim
  |some x=>
   unfold boundD at h
   split at h
   ·rename_i hh;cases hh
   ·rename_i hh
    cases hh
    cases(show R Φ m _ x from hr)
    obtain⟨hc,h⟩:=h.node_inv
    obtain⟨h0,h1⟩:=of_decide_eq_true hc
    exact⟨_,by omega,h,(fun hx=>by cases hx),fun c w=>run_bound c h0 (by omega)⟩
   ·exact h.no_fail.elim
theorem run_sliceBounds {isSlice:Bool} {len cap hh ll:Nat} {lo hi:Option Value}
  (h1:(bnd hi cap len (if isSlice then .sliceAcap else .sliceAlen)).run P w= .ok hh w) (h2:(bnd lo hh 0 .sliceB).run P w= .ok ll w):
  (Instr.sliceBounds isSlice len cap lo hi none).run P w= .ok (ll,hh,cap) w:=by
 unfold Instr.sliceBounds
 simp only[Sem.run_bind,Sem.run_pure,Result.andThen_ok,Option.isSome_none,Bool.false_eq_true,if_false]
 cases hi<;>cases lo<;>simp_all[bnd]
theorem run_slice_slice {t e:TypeId} {ie:TypeInfo} {b:Option Addr} {len cap hh ll:Nat} {lo hi:Option Value} (hu:P.underlying t=some (.slice e)) (hie:P.info? e=some ie)
  (h1:(bnd hi cap len .sliceAcap).run P w= .ok hh w) (h2:(bnd lo hh 0 .sliceB).run P w= .ok ll w):
  (Instr.sliceAt t (.slice b len cap) lo hi none).run P w= .ok (.slice (if cap=ll then b else b.map (·.add (ll*ie.size))) (hh-ll) (cap-ll)) w:=by
 unfold Instr.sliceAt Instr.slice
 simp only[Sem.run_bind,run_under hu,Result.andThen_ok,run_sliceBounds (isSlice:=true) (by simpa using h1) h2,run_size hie,Sem.run_pure]
theorem run_slice_str {t:TypeId} {x:ByteArray} {hh ll:Nat} {lo hi:Option Value} (hu:P.underlying t=some .string)
  (h1:(bnd hi x.size x.size .sliceAlen).run P w= .ok hh w) (h2:(bnd lo hh 0 .sliceB).run P w= .ok ll w):
  (Instr.sliceAt t (.string x) lo hi none).run P w= .ok (.string (x.extract ll hh)) w:=by
 unfold Instr.sliceAt Instr.slice
 simp only[Sem.run_bind,run_under hu,Result.andThen_ok,Option.isSome_none,Bool.false_eq_true,if_false,run_sliceBounds (isSlice:=false) (by simpa using h1) h2,Sem.run_pure]
theorem extract_list (x:ByteArray) (l h:Nat):(x.extract l h).data.toList=(x.data.toList.take h).drop l:=by
 rw[ByteArray.data_extract,Array.toList_extract,List.extract_eq_take_drop,List.drop_take]
theorem op_slice (hP:TabOK P tab) (hX:X.cfg.tab=tab) {t:TypeId} {y:Operand} {lo hi mx:Option Operand} (hop:o.op= .slice t y lo hi mx) (h:SatN X fid n (opR X.cfg draw s o k) Q) (hT:RT Φ m s.T a.tmps)
  (hI:Inv Φ m w s.H) (hG:Glob Φg Φ₀ i₀ w₀ Φ m w):o.wp P a w (After P Φg X fid n k Q Φ₀ i₀ w₀ o s a w Φ m) Qx:=by
 unfold opR at h
 rw[hop]at h
 dsimp only at h
 split at h
 ·split at h
  ·rename_i v l hh hv hl hhh
   have hl:=optD_ok (a:=a) hT (lo:=lo) hl
   have hhi:=optD_ok (a:=a) hT (lo:=hi) hhh
   have hrv:=opnd_eval hT hv
   generalize hey:a.eval y=ey at hrv
   have run:∀ {rd:Acc} x',(∀w:World,(Instr.sliceAt t ey (lo.map a.eval) (hi.map a.eval) none).run P w= .ok x' w)→∀w1,KeepOn Φ m rd w w1→(execOp a.eval o).run P w1= .ok (.value x') w1:=fun x' hx w1 _=>by
    simp only[execOp,hop,hey,Option.map_none,Sem.run_bind,hx w1,Result.andThen_ok,Sem.run_pure]
   unfold sliceD at h
   split at h
   ·rename_i sz_ ag_ et fl_ ze_ by_ cm_ hti
    obtain⟨ii,d,hii,hsz,_,hu,hsh,hag,_⟩:=hP.get (hX▸hti)
    have hd:=shOk_slice hsh rfl
    subst hd
    split at h
    ·rename_i te hte
     obtain⟨ie,de,hie,hsze,_⟩:=hP.get (hX▸hte)
     have tree:∀(xs:List AV) (b:Option Addr) (cap hh ll:Nat),R Φ m (.tree xs) (.slice b xs.length cap)→ll≤hh→hh≤xs.length→(ll=0∨∀v∈xs,v.cells.length=te.sz)→
       R Φ m (.tree ((xs.take hh).drop ll)) (.slice (if cap=ll then b else b.map (·.add (ll*ie.size))) (hh-ll) (cap-ll)):=by
      intro xs b cap hh ll hr h1 h2 h3
      by_cases hz:hh-ll=0
      ·have:(xs.take hh).drop ll= [] :=by rw[List.drop_eq_nil_iff];simp;omega
       rw[this,hz];exact .tree0
      ·cases hr with
       |tree0=>simp at h2;omega
       |tree esz f g1 g2 g3 g4 g5=>
        rename_i b off
        rw[if_neg (by omega)]
        have hes:ll*ie.size=ll*esz:=by
         rcases h3 with rfl|h3
         ·simp
         ·have hx:xs[0]? =some xs[0]:=by rw[List.getElem?_eq_getElem (by omega)]
          rw[hsze,←h3 _ (List.getElem_mem (by omega:0<xs.length)),g2 _ _ hx]
        have hlen:hh-ll=((xs.take hh).drop ll).length:=by simp;omega
        rw[hlen]
        simp only[Option.map_some,addr_add,hes]
        have hget:∀i v,((xs.take hh).drop ll)[i]? =some v→xs[ll+i]? =some v:=fun i v hi=>by
         rw[List.getElem?_drop,List.getElem?_take]at hi
         split at hi
         ·exact hi
         ·cases hi
        refine .tree esz (fun i j=>f (ll+i) j) (by omega) (fun i v hi=>g2 _ _ (hget i v hi)) (fun i v j c hi hj=> ?_) (fun i v j c hi hj=>g4 _ _ _ _ (hget i v hi) hj) (fun i v hi=>g5 _ _ (hget i v hi))
        rw[←g3 _ _ _ _ (hget i v hi) hj,Nat.add_mul]
        congr 1;omega
     split at h
     ·rename_i xs
      have hx:∃b cap,ey= .slice b xs.length cap∧xs.length≤cap:=by
       cases hrv with
       |tree0=>exact⟨_,_,rfl,by simp⟩
       |tree esz f g1 g2 g3 g4 g5=>exact⟨_,_,rfl,g1⟩
      obtain⟨b,cap,rfl,hcap⟩:=hx
      split at h
      ·
       have hlo:lo.map a.eval=none:=by cases hh':lo.map a.eval with|none=>rfl|some x=>rw[hh']at hl;exact hl.elim
       obtain⟨h',g1,g2,_,g3⟩:=bounds_hi (P:=P) (cap:=cap) h hhi hcap (Nat.le_refl _)
       refine pure_ok (run _ (fun w=>run_slice_slice hu hie (g3 _ w) (hh:=h') (ll:=0) (by rw[hlo];rfl))) ?_ g2 hI hG
       have:=tree xs b cap h' 0 hrv (Nat.zero_le _) g1 (.inl rfl)
       simpa using this
      ·cases h with
       |esz hall h=>
        split at h
        ·have hhi':hi.map a.eval=none:=by cases hh':hi.map a.eval with|none=>rfl|some x=>rw[hh']at hhi;exact hhi.elim
         obtain⟨l',g1,g2,_,g3⟩:=bounds_hi (P:=P) (cap:=xs.length) h hl (Nat.le_refl _) (Nat.zero_le _)
         refine pure_ok (run _ (fun w=>run_slice_slice hu hie (hh:=xs.length) (ll:=l') (by rw[hhi'];rfl) (g3 _ w))) ?_ g2 hI hG
         have:=tree xs b cap xs.length l' hrv g1 (Nat.le_refl _) (.inr hall)
         simpa using this
        ·obtain⟨h',g1,g2,_,g3⟩:=bounds_hi (P:=P) (cap:=cap) h hhi hcap (Nat.le_refl _)
         obtain⟨l',g1',g2',_,g3'⟩:=bounds_hi (P:=P) (cap:=h') g2 hl (Nat.le_refl _) (Nat.zero_le _)
         refine pure_ok (run _ (fun w=>run_slice_slice hu hie (g3 _ w) (g3' _ w))) ?_ g2' hI hG
         exact tree xs b cap h' l' hrv g1' g1 (.inr hall)
     ·
      cases hrv with
      |nils=>
       rename_i b
       obtain⟨h',g1,g2,_,g3⟩:=bounds_hi (P:=P) (cap:=0) h hhi (Nat.le_refl _) (Nat.le_refl _)
       obtain⟨l',g1',g2',_,g3'⟩:=bounds_hi (P:=P) (cap:=h') g2 hl (Nat.le_refl _) (Nat.zero_le _)
       have e1:h'=0:=by omega
       have e2:l'=0:=by omega
       subst e1 e2
       refine pure_ok (run _ (fun w=>run_slice_slice hu hie (g3 _ w) (g3' _ w))) ?_ g2' hI hG
       simpa using R.nils
     ·
      rename_i st b0 len
      split at h
      ·have hlo:lo.map a.eval=none:=by cases hh':lo.map a.eval with|none=>rfl|some x=>rw[hh']at hl;exact hl.elim
       have hx:∃b cap,ey= .slice b len cap∧len≤cap:=by
        cases hrv with
        |sref0=>exact⟨_,_,rfl,by simp⟩
        |sref _ g1 _ _=>exact⟨_,_,rfl,g1⟩
       obtain⟨b,cap,rfl,hcap⟩:=hx
       obtain⟨h',g1,g2,_,g3⟩:=bounds_hi (P:=P) (cap:=cap) h hhi hcap (Nat.le_refl _)
       refine pure_ok (run _ (fun w=>run_slice_slice hu hie (g3 _ w) (hh:=h') (ll:=0) (by rw[hlo];rfl))) ?_ g2 hI hG
       cases hrv with
       |sref0=>have:h'=0:=by omega
               subst this;simpa using R.sref0
       |sref hm g4 g5 g6=>
        simp only[Nat.zero_mul,Nat.sub_zero,Option.map_some,addr_add,Nat.add_zero,ite_self]
        exact .sref hm (by omega) g5 (by omega)
      ·exact h.no_fail.elim
     ·exact h.no_fail.elim
    ·exact h.no_fail.elim
   ·
    rename_i sz_ ag_ fl_ ze_ by_ cm_ hti
    obtain⟨ii,d,hii,hsz,_,hu,hsh,hag,_⟩:=hP.get (hX▸hti)
    have hd:=shOk_string hsh rfl
    subst hd
    split at h
    ·rename_i bs
     cases hrv with
     |str hs=>
      rename_i x
      have hlen:bs.length=x.size:=by rw[←hs,Array.length_toList];rfl
      split at h
      ·have hlo:lo.map a.eval=none:=by cases hh':lo.map a.eval with|none=>rfl|some x=>rw[hh']at hl;exact hl.elim
       obtain⟨h',g1,g2,_,g3⟩:=bounds_hi (P:=P) (cap:=x.size) h hhi (by omega) (Nat.le_refl _)
       rw[hlen]at g3
       refine pure_ok (run _ (fun w=>run_slice_str hu (g3 _ w) (hh:=h') (ll:=0) (by rw[hlo];rfl))) ?_ g2 hI hG
       exact .str (by rw[extract_list,hs];simp)
      ·split at h
       ·have hhi':hi.map a.eval=none:=by cases hh':hi.map a.eval with|none=>rfl|some x=>rw[hh']at hhi;exact hhi.elim
        obtain⟨l',g1,g2,_,g3⟩:=bounds_hi (P:=P) (cap:=x.size) h hl (by omega) (Nat.zero_le _)
        refine pure_ok (run _ (fun w=>run_slice_str hu (hh:=x.size) (ll:=l') (by rw[hhi'];rfl) (g3 _ w))) ?_ g2 hI hG
        exact .str (by rw[extract_list,hs,←hlen];simp)
       ·obtain⟨h',g1,g2,_,g3⟩:=bounds_hi (P:=P) (cap:=x.size) h hhi (by omega) (Nat.le_refl _)
        obtain⟨l',g1',g2',_,g3'⟩:=bounds_hi (P:=P) (cap:=h') g2 hl (Nat.le_refl _) (Nat.zero_le _)
        rw[hlen]at g3
        refine pure_ok (run _ (fun w=>run_slice_str hu (g3 _ w) (g3' _ w))) ?_ g2' hI hG
        exact .str (by rw[extract_list,hs])
    ·exact h.no_fail.elim
   ·exact h.no_fail.elim
  ·exact h.no_fail.elim
 ·exact h.no_fail.elim
end
end Go.Ab
namespace Go.Ab
open Go
section
variable {Φg:Phi} {α:Type} {X:Ctx} {fid:FuncId} {P:Program} {n:Nat} {draw:Bool} {s:St} {o:Oper} {k:Script→DT α} {Q:α→Prop} {a:Act} {w w₀:World}
 {Φ Φ₀:Phi} {m i₀:LMap} {Qx:Exit→Act→World→Prop} {tab:Tab}
theorem op_unOp {op:UnOp} {t:TypeId} {y:Operand} (hop:o.op= .unOp op t y) (h:SatN X fid n (opR X.cfg draw s o k) Q) (hT:RT Φ m s.T a.tmps)
  (hI:Inv Φ m w s.H) (hG:Glob Φg Φ₀ i₀ w₀ Φ m w):o.wp P a w (After P Φg X fid n k Q Φ₀ i₀ w₀ o s a w Φ m) Qx:=by
 unfold opR at h
 rw[hop]at h
 dsimp only at h
 split at h
 ·rename_i b hb
  have hr:=opnd_eval hT hb
  generalize he:a.eval y=e at hr
  cases hr
  refine pure_ok (x:= .bool (!b)) ?_ (.bool _) h hI hG
  intro w1 _
  simp[execOp,hop,he,Op.unary]
 ·rename_i kd i hb
  have hr:=opnd_eval hT hb
  generalize he:a.eval y=e at hr
  cases hr
  refine pure_ok (x:= .int kd (kd.wrap (0-i))) ?_ (.int _ _) h hI hG
  intro w1 _
  simp[execOp,hop,he,Op.unary,Op.intArith]
 ·exact h.no_fail.elim
theorem intD_ok {op:BinOp} {kd:IntKind} {x y:Int} {t:TypeId} {q:AV→DT α} (hs:op≠ .shl∧op≠ .shr) (h:SatN X fid n (intD op kd x y q) Q):
  ∃v x',SatN X fid n (q v) Q∧R Φ m v x'∧∀w:World,(binOp op t (.int kd x) (.int kd y)).run P w= .ok x' w:=by
 unfold intD at h
 split at h
 ·exact⟨_,_,h,.int _ _,fun w=>by simp[binOp,Op.intArith]⟩
 ·exact⟨_,_,h,.int _ _,fun w=>by simp[binOp,Op.intArith]⟩
 ·exact⟨_,_,h,.int _ _,fun w=>by simp[binOp,Op.intArith]⟩
 ·obtain⟨hc,h⟩:=h.node_inv
  have hc:=of_decide_eq_true hc
  exact⟨_,_,h,.int _ _,fun w=>by simp[binOp,Op.intDiv,hc]⟩
 ·obtain⟨hc,h⟩:=h.node_inv
  have hc:=of_decide_eq_true hc
  exact⟨_,_,h,.int _ _,fun w=>by simp[binOp,Op.intDiv,hc]⟩
 ·exact⟨_,_,h,.int _ _,fun w=>by simp[binOp,Op.intBits]⟩
 ·exact⟨_,_,h,.int _ _,fun w=>by simp[binOp,Op.intBits]⟩
 ·exact⟨_,_,h,.int _ _,fun w=>by simp[binOp,Op.intBits]⟩
 ·exact⟨_,_,h,.int _ _,fun w=>by simp[binOp,Op.intBits]⟩
 ·exact⟨_,.bool (decide (x=y)),h,.bool _,fun w=>by simp[binOp,Op.intCmp];rfl⟩
 ·exact⟨_,.bool (!decide (x=y)),h,.bool _,fun w=>by simp[binOp,Op.intCmp];rfl⟩
 ·exact⟨_,_,h,.bool _,fun w=>by simp[binOp,Op.intCmp]⟩
 ·exact⟨_,_,h,.bool _,fun w=>by simp[binOp,Op.intCmp]⟩
 ·exact⟨_,_,h,.bool _,fun w=>by simp[binOp,Op.intCmp]⟩
 ·exact⟨_,_,h,.bool _,fun w=>by simp[binOp,Op.intCmp]⟩
 ·exact h.no_fail.elim
theorem bytesLt_eq:∀(x y:List UInt8),bytesLt x y=Op.bytesLess x y
 |_,[] =>by unfold bytesLt Op.bytesLess;rfl
 | [],_::_=>by unfold bytesLt Op.bytesLess;rfl
 |a::x,b::y=>by unfold bytesLt Op.bytesLess;rw[bytesLt_eq x y]
theorem shOk_bool {d:TypeDesc} {ti:TI} (h:ShOk d ti) (he:ti.desc= .bool):d= .bool:=by
 unfold ShOk at h;rw[he]at h;exact h
theorem shOk_iface {d:TypeDesc} {ti:TI} (h:ShOk d ti) (he:ti.desc= .iface):∃ms,d= .interface ms:=by
 unfold ShOk at h;rw[he]at h;exact h
theorem shOk_pointer {d:TypeDesc} {ti:TI} {e:TypeId} (h:ShOk d ti) (he:ti.desc= .pointer e):d= .pointer e:=by
 unfold ShOk at h;rw[he]at h;exact h
theorem equal_of {t:TypeId} {u v:Value} {c:Bool} (h:∀d,(Op.equalIn (d+1) t u v).run P w= .ok c w):(Op.equal t u v).run P w= .ok c w:=h 9999
section
variable {t:TypeId} (d:Nat)
theorem eqIn_bool (hu:P.underlying t=some .bool) (a b:Bool):(Op.equalIn (d+1) t (.bool a) (.bool b)).run P w= .ok (decide (a=b)) w:=by
 rw[Op.equalIn];simp only[Sem.run_bind,run_under hu,Result.andThen_ok,Sem.run_pure];rfl
theorem eqIn_nilnil {ms:Array (String×TypeId)} (hu:P.underlying t=some (.interface ms)):(Op.equalIn (d+1) t .nilIface .nilIface).run P w= .ok true w:=by
 rw[Op.equalIn];simp only[Sem.run_bind,run_under hu,Result.andThen_ok,Sem.run_pure]
theorem eqIn_nili {ms:Array (String×TypeId)} (hu:P.underlying t=some (.interface ms)) (u:TypeId) (x:Value):(Op.equalIn (d+1) t .nilIface (.iface u x)).run P w= .ok false w:=by
 rw[Op.equalIn];simp only[Sem.run_bind,run_under hu,Result.andThen_ok,Sem.run_pure]
theorem eqIn_inil {ms:Array (String×TypeId)} (hu:P.underlying t=some (.interface ms)) (u:TypeId) (x:Value):(Op.equalIn (d+1) t (.iface u x) .nilIface).run P w= .ok false w:=by
 rw[Op.equalIn];simp only[Sem.run_bind,run_under hu,Result.andThen_ok,Sem.run_pure]
theorem eqIn_pnil {e:TypeId} (hu:P.underlying t=some (.pointer e)) (b:Option Addr):(Op.equalIn (d+1) t (.pointer none) (.pointer b)).run P w= .ok b.isNone w:=by
 rw[Op.equalIn];simp only[Sem.run_bind,run_under hu,Result.andThen_ok,Sem.run_pure]
theorem eqIn_nilp {e:TypeId} (hu:P.underlying t=some (.pointer e)) (b:Addr):(Op.equalIn (d+1) t (.pointer (some b)) (.pointer none)).run P w= .ok false w:=by
 rw[Op.equalIn];simp only[Sem.run_bind,run_under hu,Result.andThen_ok,Sem.run_pure]
theorem eqIn_snil {e:TypeId} (hu:P.underlying t=some (.slice e)) (b:Option Addr) (x y z z':Nat):(Op.equalIn (d+1) t (.slice b x y) (.slice none z z')).run P w= .ok b.isNone w:=by
 cases b with
 |none=>rw[Op.equalIn];simp only[Sem.run_bind,run_under hu,Result.andThen_ok,Sem.run_pure]
 |some b=>rw[Op.equalIn];simp only[Sem.run_bind,run_under hu,Result.andThen_ok,Sem.run_pure];rfl
end
theorem nil_const {c:Value} (h:ofValue c=some .nils):c= .slice none 0 0:=by
 unfold ofValue at h
 split at h
 ·split at h<;>cases h
 ·unfold ofLit at h
  split at h<;>simp_all
theorem beqd (x y:List UInt8):(x==y)=decide (x=y):=by rw[Bool.eq_iff_iff];simp
def Var (Φ:Phi) (m:LMap) (agg:Bool) (xs:List AV) (x:Value):Prop:=
 match agg with
 |true=>∃arr:Array Value,x= .agg arr∧Rs Φ m xs arr.toList
 |false=>∃u r,xs=u::r∧R Φ m u x
theorem part_run (hP:TabOK P tab) {cfg:Cfg} (hc:cfg.tab=tab) {t:TypeId} {ti:TI} (hti:cfg.tab.get t=some ti) {xs:List AV} {arr:Array Value} {o:Nat} (hl:Rs Φ m xs arr.toList) (_hle:o+ti.sz≤xs.length)
  (hne:(xs.drop o).take ti.sz≠ [] ∨ti.agg=true):∃v,(∀w:World,(part t arr o).run P w= .ok v w)∧Var Φ m ti.agg ((xs.drop o).take ti.sz) v:=by
 obtain⟨i,d,hi,hsz,_,hu,hsh,hag,_⟩:=hP.get (hc▸hti)
 cases hagg:ti.agg with
 |true=>
  refine⟨.agg (arr.extract o (o+ti.sz)),fun w=> ?_,_,rfl, ?_⟩
  ·unfold part
   rw[Sem.run_bind,run_agg hu (by rw[←hag,hagg]) w,Result.andThen_ok]
   simp[run_size hi,hsz]
  ·rw[Array.toList_extract,List.extract_eq_take_drop,Nat.add_sub_cancel_left]
   exact(hl.drop o).take ti.sz
 |false=>
  rcases hne with hne|hne
  ·cases hd:(xs.drop o).take ti.sz with
   |nil=>exact absurd hd hne
   |cons u r=>
    have h0:((xs.drop o).take ti.sz)[0]? =some u:=by rw[hd];rfl
    rw[List.getElem?_take]at h0
    split at h0
    ·rw[List.getElem?_drop]at h0
     obtain⟨x,hx,hr⟩:=hl.2 _ u h0
     have hx':arr[o]? =some x:=by simpa using hx
     refine⟨x,fun w=> ?_,u,r,rfl,hr⟩
     unfold part
     rw[Sem.run_bind,run_agg hu (by rw[←hag,hagg]) w,Result.andThen_ok]
     simp[hx']
    ·cases h0
  ·rw[hagg]at hne;cases hne
theorem eqT_nonempty {cfg:Cfg} {n:Nat} {t:TypeId} {ti:TI} {xs ys:List AV} {c:Bool} (hti:cfg.tab.get t=some ti) (h:eqT cfg n t xs ys=some c):(xs≠ [] ∧ys≠ [])∨ti.desc= .struct∨∃l e,ti.desc= .array l e:=by
 cases n with
 |zero=>cases h
 |succ n=>
  simp only[eqT,hti]at h
  split at h
  ·rename_i hd;exact .inr (.inl hd)
  ·rename_i l e hd;exact .inr (.inr ⟨l,e,hd⟩)
  all_goals first
   |(split at h
     ·exact .inl ⟨by simp,by simp⟩
     ·cases h)
   |cases h
theorem eqT_ok (hP:TabOK P tab) {cfg:Cfg} (hc:cfg.tab=tab):∀(n:Nat) {t:TypeId} {ti:TI} {xs ys:List AV} {c:Bool} {u v:Value},cfg.tab.get t=some ti→eqT cfg n t xs ys=some c→Var Φ m ti.agg xs u→Var Φ m ti.agg ys v→
  ∀d,n≤d→∀w:World,(Op.equalIn d t u v).run P w= .ok c w
 | 0,t,ti,xs,ys,c,u,v,hti,h,_,_,_,_,_=>by cases h
 |n+1,t,ti,xs,ys,c,u,v,hti,h,hu,hv,d,hd,w=>by
  obtain⟨i,de,hi,hsz,_,hund,hsh,hag,_,harr,hst⟩:=hP.get (hc▸hti)
  obtain⟨d,rfl⟩:∃d',d=d'+1:=⟨d-1,by omega⟩
  simp only[eqT,hti]at h
  have one:(∀fs,de≠ .struct fs)→(∀k e,de≠ .array k e)→ti.agg=false:=fun h1 h2=>by
   cases ha:ti.agg with
   |false=>rfl
   |true=>
    rcases hag.1 ha with⟨fs,he⟩|⟨k,e,he⟩
    ·exact absurd he (h1 fs)
    ·exact absurd he (h2 k e)
  split at h
  ·
   rename_i hde
   unfold ShOk at hsh
   rw[hde]at hsh
   obtain⟨fs,rfl,_⟩:=hsh
   have hagg:ti.agg=true:=hag.2 (.inl ⟨fs,rfl⟩)
   rw[hagg]at hu hv
   obtain⟨xa,rfl,hxa⟩:=hu
   obtain⟨ya,rfl,hya⟩:=hv
   cases hcmp:ti.cmp with
   |false=>rw[hcmp]at h;cases h
   |true=>
    rw[hcmp]at h
    simp only[cond_true]at h
    obtain⟨hs1,hs2,hs3⟩:=hP.eqs t ti fs (hc▸hti) hcmp hund
    obtain⟨hlen,hfs⟩:=hst fs rfl
    have hfo:P.fieldsOf t=fs:=by unfold Program.fieldsOf;rw[hund]
    rw[run_equalIn_struct w d t xa ya (by rw[hfo];exact hund) hs1,hfo]
    have hmap:ti.fields=fs.toList.map fun f=>(f.offset,f.type):=by
     apply List.ext_getElem?
     intro j
     rw[List.getElem?_map]
     cases hj:fs.toList[j]? with
     |none=>
      have:fs.size≤j:=by simpa using List.getElem?_eq_none_iff.1 hj
      rw[List.getElem?_eq_none (by omega)];rfl
     |some f=>
      obtain⟨h1,_⟩:=hfs j f (by simpa using hj)
      rw[h1];rfl
    rw[hmap]at h
    have hall:∀f∈fs.toList,f.name≠ "_" :=hs3
    generalize fs.toList=fl at h hall
    clear hmap hfs hlen hfo hs3
    induction fl generalizing c with
    |nil=>
     simp only[List.map_nil,eqFs,Option.some.injEq]at h
     subst h
     simp[Op.eqFields]
    |cons f r ih=>
     simp only[List.map_cons,eqFs]at h
     split at h
     ·rename_i fi hfi
      cases hb:(Nat.ble (f.offset+fi.sz) xs.length&&Nat.ble (f.offset+fi.sz) ys.length)with
      |false=>rw[hb]at h;cases h
      |true=>
       rw[hb]at h
       simp only[cond_true]at h
       simp only[Bool.and_eq_true]at hb
       have hb1:=Nat.le_of_ble_eq_true hb.1
       have hb2:=Nat.le_of_ble_eq_true hb.2
       split at h
       ·rename_i c1 hc1
        split at h
        ·rename_i c2 hc2
         simp only[Option.some.injEq]at h
         subst h
         have hne:=eqT_nonempty hfi hc1
         have hag2:(fi.desc= .struct∨∃l e,fi.desc= .array l e)→fi.agg=true:=fun hd2=>by
          obtain⟨i2,d2,hi2,_,_,_,hsh2,hag2,_⟩:=hP.get (hc▸hfi)
          unfold ShOk at hsh2
          rcases hd2 with hd2|⟨l2,e2,hd2⟩
          ·rw[hd2]at hsh2
           obtain⟨fs2,rfl,_⟩:=hsh2
           exact hag2.2 (.inl ⟨fs2,rfl⟩)
          ·rw[hd2]at hsh2
           obtain⟨rfl,_⟩:=hsh2
           exact hag2.2 (.inr ⟨l2,e2,rfl⟩)
         obtain⟨a,ha1,ha2⟩:=part_run hP hc hfi hxa hb1 (hne.imp (fun h=>h.1) hag2)
         obtain⟨b,hb1',hb2'⟩:=part_run hP hc hfi hya hb2 (hne.imp (fun h=>h.2) hag2)
         have heq:=eqT_ok hP hc n hfi hc1 ha2 hb2' d (by omega) w
         have ih':=ih _ hc2 (fun g hg=>hall g (List.mem_cons_of_mem _ hg))
         simp only[Op.eqFields]
         rw[if_pos (hall f (List.mem_cons_self ..))]
         simp only[Sem.run_bind,ha1,hb1',heq,Result.andThen_ok]
         cases c1 with
         |true=>simpa using ih'
         |false=>simp
        ·cases h
       ·cases h
     ·cases h
  ·
   rename_i l e hde
   unfold ShOk at hsh
   rw[hde]at hsh
   obtain⟨rfl,_⟩:=hsh
   have hagg:ti.agg=true:=hag.2 (.inr ⟨l,e,rfl⟩)
   rw[hagg]at hu hv
   obtain⟨xa,rfl,hxa⟩:=hu
   obtain⟨ya,rfl,hya⟩:=hv
   cases hcl:(ti.cmp&&Nat.beq ti.fields.length l)with
   |false=>rw[hcl]at h;cases h
   |true=>
    rw[hcl]at h
    simp only[cond_true]at h
    simp only[Bool.and_eq_true,Nat.beq_eq]at hcl
    obtain⟨te,hte,hfe⟩:=harr l e rfl
    obtain⟨ie,dee,hie,hsze,_,_,hshe,hage,_⟩:=hP.get hte
    have hce:P.cellsOf e=te.sz:=by unfold Program.cellsOf;rw[hie];exact hsze
    rw[run_equalIn_array w d xa ya hund hie,hce]
    have hmap:ti.fields=(List.range l).map fun j=>(j*te.sz,e):=by
     apply List.ext_getElem?
     intro j
     rw[List.getElem?_map]
     by_cases hj:j<l
     ·have hj2:j<ti.fields.length:=by omega
      obtain⟨h1,h2⟩:=hfe j ti.fields[j].1 ti.fields[j].2 (by rw[List.getElem?_eq_getElem hj2])
      rw[List.getElem?_eq_getElem hj2,List.getElem?_range hj]
      simp only[Option.map_some,Option.some.injEq]
      exact Prod.ext h1 h2
     ·rw[List.getElem?_eq_none (by omega),List.getElem?_eq_none (by simp;omega)];rfl
    rw[hmap]at h
    generalize List.range l=is at h
    clear hmap
    have hfi:cfg.tab.get e=some te:=hc▸hte
    induction is generalizing c with
    |nil=>
     simp only[List.map_nil,eqFs,Option.some.injEq]at h
     subst h
     simp[Op.eqItems]
    |cons j r ih=>
     simp only[List.map_cons,eqFs,hfi]at h
     cases hb:(Nat.ble (j*te.sz+te.sz) xs.length&&Nat.ble (j*te.sz+te.sz) ys.length)with
     |false=>rw[hb]at h;cases h
     |true=>
      rw[hb]at h
      simp only[cond_true]at h
      simp only[Bool.and_eq_true]at hb
      have hb1:=Nat.le_of_ble_eq_true hb.1
      have hb2:=Nat.le_of_ble_eq_true hb.2
      split at h
      ·rename_i c1 hc1
       split at h
       ·rename_i c2 hc2
        simp only[Option.some.injEq]at h
        subst h
        have hne:=eqT_nonempty hfi hc1
        have hag2:(te.desc= .struct∨∃l e,te.desc= .array l e)→te.agg=true:=fun hd2=>by
         unfold ShOk at hshe
         rcases hd2 with hd2|⟨l2,e2,hd2⟩
         ·rw[hd2]at hshe
          obtain⟨fs2,rfl,_⟩:=hshe
          exact hage.2 (.inl ⟨fs2,rfl⟩)
         ·rw[hd2]at hshe
          obtain⟨rfl,_⟩:=hshe
          exact hage.2 (.inr ⟨l2,e2,rfl⟩)
        obtain⟨a,ha1,ha2⟩:=part_run hP hc hfi hxa hb1 (hne.imp (fun h=>h.1) hag2)
        obtain⟨b,hb1',hb2'⟩:=part_run hP hc hfi hya hb2 (hne.imp (fun h=>h.2) hag2)
        have heq:=eqT_ok hP hc n hfi hc1 ha2 hb2' d (by omega) w
        have ih':=ih _ hc2
        simp only[Op.eqItems]
        simp only[Sem.run_bind,ha1,hb1',heq,Result.andThen_ok]
        cases c1 with
        |true=>simpa using ih'
        |false=>simp
       ·cases h
      ·cases h
  ·rename_i k hde
   unfold ShOk at hsh
   rw[hde]at hsh
   subst hsh
   rw[one (by simp) (by simp)]at hu hv
   split at h
   ·rename_i k1 a k2 b
    obtain⟨_,_,he1,hr1⟩:=hu
    obtain⟨_,_,he2,hr2⟩:=hv
    cases he1;cases he2
    cases hr1;cases hr2
    cases hk:decide (k1=k2)with
    |false=>rw[hk]at h;cases h
    |true=>
     rw[hk]at h
     obtain rfl:=of_decide_eq_true hk
     cases h
     rw[run_equalIn_int w d t k1 k a b hund]
     rfl
   ·cases h
  ·rename_i hde
   unfold ShOk at hsh
   rw[hde]at hsh
   subst hsh
   rw[one (by simp) (by simp)]at hu hv
   split at h
   ·rename_i a b
    obtain⟨_,_,he1,hr1⟩:=hu
    obtain⟨_,_,he2,hr2⟩:=hv
    cases he1;cases he2
    cases hr1;cases hr2
    cases h
    exact eqIn_bool d hund a b
   ·cases h
  ·rename_i hde
   unfold ShOk at hsh
   rw[hde]at hsh
   subst hsh
   rw[one (by simp) (by simp)]at hu hv
   split at h
   ·rename_i a b
    obtain⟨_,_,he1,hr1⟩:=hu
    obtain⟨_,_,he2,hr2⟩:=hv
    cases he1;cases he2
    cases hr1 with
    |str h1=>
     cases hr2 with
     |str h2=>
      cases h
      rw[run_equalIn_string w d t _ _ hund,ByteArray.toList_eq,ByteArray.toList_eq]
      rw[show∀z:ByteArray,z.data.toList=z.data.toList from fun _=>rfl]
      simp only[h1,h2]
      rw[beqd]
   ·cases h
  ·cases h
theorem eqD_ok (hP:TabOK P tab) {cfg:Cfg} (hc:cfg.tab=tab) {cx cy:Bool} {t:TypeId} {x y:AV} {u v:Value} {f g:Operand} {q:Bool→DT α} (hs:eqShape cfg t x=true) (h:SatN X fid n (eqD cfg draw cx cy x y q) Q)
  (hnil:y= .nils→cy=true→v= .slice none 0 0) (hcx:cx=isConst f) (hcy:cy=isConst g) (hx:R Φ m x u) (hy:R Φ m y v):
  ∃c,SatN X fid n (q c) Q∧∀w:World,(Op.equal t u v).run P w= .ok c w∧(eqGuard .eql t f g u v).run P w= .ok () w∧(eqGuard .neq t f g u v).run P w= .ok () w:=by
 unfold eqShape at hs
 split at hs
 ·rename_i ti hti
  obtain⟨ii,d,hii,hsz,_,hu,hsh,hag,_⟩:=hP.get (hc▸hti)
  unfold eqD at h
  split at hs
  ·
   rename_i hd
   have hd:=shOk_bool hsh hd
   subst hd
   cases hx
   cases y<;>try exact h.no_fail.elim
   cases hy
   exact⟨_,h,fun w=>⟨equal_of fun d=>eqIn_bool d hu _ _,by simp[eqGuard],by simp[eqGuard]⟩⟩
  ·
   rename_i hd
   obtain⟨ms,hd⟩:=shOk_iface hsh hd
   subst hd
   cases hx
   cases y<;>try exact h.no_fail.elim
   ·cases hy
    cases hcc:(cx||cy)with
    |false=>rw[hcc]at h;exact h.no_fail.elim
    |true=>
     rw[hcc]at h
     rw[hcx,hcy]at hcc
     have hg:eqGuard .eql t f g .nilIface .nilIface=pure ()∧eqGuard .neq t f g .nilIface .nilIface=pure ():=by
      cases f<;>cases g<;>first|exact⟨rfl,rfl⟩|simp[isConst]at hcc
     exact⟨true,h,fun w=>⟨equal_of fun d=>eqIn_nilnil d hu,by rw[hg.1];rfl,by rw[hg.2];rfl⟩⟩
   ·cases hy
    exact⟨false,h,fun w=>⟨equal_of fun d=>eqIn_nili d hu _ _,by simp[eqGuard],by simp[eqGuard]⟩⟩
  ·rename_i tx vx hd
   obtain⟨ms,hd⟩:=shOk_iface hsh hd
   subst hd
   cases hx with
   | @iface _ _ _ xv hxv=>
   cases y<;>try exact h.no_fail.elim
   ·cases hy
    exact⟨false,h,fun w=>⟨equal_of fun d=>eqIn_inil d hu _ _,by simp[eqGuard],by simp[eqGuard]⟩⟩
   ·rename_i ty vy
    cases hy with
    | @iface _ _ _ yv hyv=>
    dsimp only at h
    cases htt:Nat.beq tx ty with
    |false=>
     rw[htt]at h
     have hne:tx≠ty:=fun he=>by rw[he]at htt;simp at htt
     refine⟨false,h,fun w=>⟨equal_of fun d=> ?_,by simp[eqGuard],by simp[eqGuard]⟩⟩
     rw[Op.equalIn]
     simp only[Sem.run_bind,run_under hu,Result.andThen_ok]
     rw[if_pos (by simpa using hne)];rfl
    |true=>
     rw[htt]at h
     rw[Nat.beq_eq]at htt
     subst htt
     simp only[cond_true]at h
     split at h
     ·rename_i c hci
      unfold eqI at hci
      split at hci
      ·rename_i te hte
       cases hcmp:te.cmp with
       |false=>rw[hcmp]at hci;cases hci
       |true=>
       rw[hcmp]at hci
       simp only[cond_true]at hci
       obtain⟨ic,hic,hicc⟩:=hP.cmp _ _ (hc▸hte) hcmp
       have key:∀w:World,(Op.equalIn 9999 tx xv yv).run P w= .ok c w:=by
        cases hag':te.agg with
        |true=>
         rw[hag']at hci
         simp only[cond_true]at hci
         split at hci
         ·obtain⟨xa,rfl,hxa⟩:=hxv.agg_inv
          obtain⟨ya,rfl,hya⟩:=hyv.agg_inv
          exact fun w=>eqT_ok hP hc 8 (Φ:=Φ) (m:=m) hte hci (by rw[hag'];exact⟨_,rfl,hxa⟩) (by rw[hag'];exact⟨_,rfl,hya⟩) 9999 (by omega) w
         ·cases hci
        |false=>
         rw[hag']at hci
         simp only[cond_false]at hci
         cases h1:(isOneCell vx&&isOneCell vy)with
         |false=>rw[h1]at hci;cases hci
         |true=>
          rw[h1]at hci
          exact fun w=>eqT_ok hP hc 8 (Φ:=Φ) (m:=m) hte hci (by rw[hag'];exact⟨_,_,rfl,hxv⟩) (by rw[hag'];exact⟨_,_,rfl,hyv⟩) 9999 (by omega) w
       refine⟨c,h,fun w=>⟨?_,by simp[eqGuard],by simp[eqGuard]⟩⟩
       show(Op.equalIn (9999+1) t _ _).run P w=_
       rw[Op.equalIn]
       simp only[Sem.run_bind,run_under hu,Result.andThen_ok,ne_eq,not_true_eq_false,if_false,typeInfo,run_program,hic,Sem.run_pure,hicc,Bool.not_true,Bool.false_eq_true]
       exact key w
      ·cases hci
     ·exact h.no_fail.elim
  ·rename_i hd
   have hd:=shOk_pointer hsh hd
   subst hd
   cases hx
   cases y<;>try exact h.no_fail.elim
   all_goals cases hy
   all_goals exact⟨_,h,fun w=>⟨equal_of fun d=>eqIn_pnil d hu _,by simp[eqGuard],by simp[eqGuard]⟩⟩
  ·rename_i hd
   have hd:=shOk_pointer hsh hd
   subst hd
   cases hx
   cases y<;>try exact h.no_fail.elim
   all_goals cases hy
   all_goals exact⟨_,h,fun w=>⟨equal_of fun d=>eqIn_nilp d hu _,by simp[eqGuard],by simp[eqGuard]⟩⟩
  ·rename_i hd
   have hd:=shOk_pointer hsh hd
   subst hd
   cases hx
   cases y<;>try exact h.no_fail.elim
   all_goals cases hy
   all_goals exact⟨_,h,fun w=>⟨equal_of fun d=>eqIn_nilp d hu _,by simp[eqGuard],by simp[eqGuard]⟩⟩
  ·rename_i xs hd
   have hd:=shOk_slice hsh hd
   subst hd
   cases y<;>try exact h.no_fail.elim
   cases draw with
   |true=>exact h.no_fail.elim
   |false=>
   cases hcc:cy with
   |false=>rw[hcc]at h;exact h.no_fail.elim
   |true=>
   rw[hcc]at h
   obtain rfl:=hnil rfl hcc
   simp only[Bool.not_true,Bool.or_false,cond_false]at h
   have both:∀b l c,u= .slice b l c→∀w:World,(Op.equal t u (.slice none 0 0)).run P w= .ok b.isNone w∧eqGuard .eql t f g u (.slice none 0 0)=pure ()∧eqGuard .neq t f g u (.slice none 0 0)=pure ():=by
    rintro b l c rfl w
    exact⟨equal_of fun d=>eqIn_snil d hu _ _ _ _ _,by simp[eqGuard],by simp[eqGuard]⟩
   cases h with
   |nodeT hc h=>
    cases h with
    |amb ha hb=>
     cases hx with
     |tree0=>
      rename_i b cap
      cases b with
      |none=>exact⟨true,ha,fun w=>⟨(both _ _ _ rfl w).1,by rw[(both _ _ _ rfl w).2.1];rfl,by rw[(both _ _ _ rfl w).2.2];rfl⟩⟩
      |some b=>exact⟨false,hb,fun w=>⟨(both _ _ _ rfl w).1,by rw[(both _ _ _ rfl w).2.1];rfl,by rw[(both _ _ _ rfl w).2.2];rfl⟩⟩
     |tree esz fn g1 g2 g3 g4 g5=>
      exact⟨false,hb,fun w=>⟨(both _ _ _ rfl w).1,by rw[(both _ _ _ rfl w).2.1];rfl,by rw[(both _ _ _ rfl w).2.2];rfl⟩⟩
   |nodeF hc h=>
    cases hx with
    |tree0=>cases hc
    |tree esz fn g1 g2 g3 g4 g5=>
     exact⟨false,h,fun w=>⟨(both _ _ _ rfl w).1,by rw[(both _ _ _ rfl w).2.1];rfl,by rw[(both _ _ _ rfl w).2.2];rfl⟩⟩
  ·rename_i hd
   have hd:=shOk_slice hsh hd
   subst hd
   cases y<;>try exact h.no_fail.elim
   cases draw with
   |true=>exact h.no_fail.elim
   |false=>
   cases hcc:cy with
   |false=>rw[hcc]at h;exact h.no_fail.elim
   |true=>
   rw[hcc]at h
   obtain rfl:=hnil rfl hcc
   simp only[Bool.not_true,Bool.or_false,cond_false]at h
   cases hx with
   |nils=>
    rename_i b
    cases h with
    |amb ha hb=>
     cases b with
     |none=>exact⟨true,ha,fun w=>⟨equal_of fun d=>eqIn_snil d hu _ _ _ _ _,by simp[eqGuard],by simp[eqGuard]⟩⟩
     |some b=>exact⟨false,hb,fun w=>⟨equal_of fun d=>eqIn_snil d hu _ _ _ _ _,by simp[eqGuard],by simp[eqGuard]⟩⟩
  ·rename_i st lo len hd
   have hd:=shOk_slice hsh hd
   subst hd
   cases y<;>try exact h.no_fail.elim
   cases draw with
   |true=>exact h.no_fail.elim
   |false=>
   cases hcc:cy with
   |false=>rw[hcc]at h;exact h.no_fail.elim
   |true=>
   rw[hcc]at h
   obtain rfl:=hnil rfl hcc
   simp only[Bool.not_true,Bool.or_false,cond_false]at h
   cases h with
   |nodeT hc h=>
    cases h with
    |amb ha hb=>
     cases hx with
     |sref0=>
      rename_i b
      cases b with
      |none=>exact⟨true,ha,fun w=>⟨equal_of fun d=>eqIn_snil d hu _ _ _ _ _,by simp[eqGuard],by simp[eqGuard]⟩⟩
      |some b=>exact⟨false,hb,fun w=>⟨equal_of fun d=>eqIn_snil d hu _ _ _ _ _,by simp[eqGuard],by simp[eqGuard]⟩⟩
     |sref hm g1 g2 g3=>exact⟨false,hb,fun w=>⟨equal_of fun d=>eqIn_snil d hu _ _ _ _ _,by simp[eqGuard],by simp[eqGuard]⟩⟩
   |nodeF hc h=>
    cases hx with
    |sref0=>cases hc
    |sref hm g1 g2 g3=>exact⟨false,h,fun w=>⟨equal_of fun d=>eqIn_snil d hu _ _ _ _ _,by simp[eqGuard],by simp[eqGuard]⟩⟩
  ·cases hs
 ·cases hs
theorem op_binOp (hP:TabOK P tab) (hX:X.cfg.tab=tab) {op:BinOp} {t t':TypeId} {f g:Operand} (hop:o.op= .binOp op t f g t') (h:SatN X fid n (opR X.cfg draw s o k) Q) (hT:RT Φ m s.T a.tmps)
  (hI:Inv Φ m w s.H) (hG:Glob Φg Φ₀ i₀ w₀ Φ m w):o.wp P a w (After P Φg X fid n k Q Φ₀ i₀ w₀ o s a w Φ m) Qx:=by
 unfold opR at h
 rw[hop]at h
 dsimp only at h
 split at h
 ·rename_i x y hx hy
  have hrx:=opnd_eval hT hx
  have hry:=opnd_eval hT hy
  have hnil:y= .nils→isConst g=true→a.eval g= .slice none 0 0:=fun h1 h2=>by
   cases g<;>simp[isConst]at h2
   subst h1
   exact nil_const hy
  generalize heu:a.eval f=u at hrx
  generalize hev:a.eval g=v at hry hnil
  have run:∀ {rd:Acc} x',(∀w:World,(eqGuard op t f g u v).run P w= .ok () w)→(∀w:World,(binOp op t u v).run P w= .ok x' w)→∀w1,KeepOn Φ m rd w w1→(execOp a.eval o).run P w1= .ok (.value x') w1:=fun x' h1 h2 w _=>by
   simp only[execOp,hop,heu,hev,Sem.run_bind,h1,Result.andThen_ok,h2,Sem.run_pure]
  unfold binD at h
  split at h
  ·
   rename_i kd i kd' j
   cases hrx
   cases hry
   have hg:∀op,∀w:World,(eqGuard op t f g (.int kd i) (.int kd' j)).run P w= .ok () w:=fun op w=>by cases op<;>simp[eqGuard]
   split at h
   ·obtain⟨hc,h⟩:=h.node_inv
    have hc:=of_decide_eq_true hc
    refine pure_ok (run _ (hg _) fun w=> ?_) (.int _ _) h hI hG
    simp only[binOp,Op.shift]
    rw[if_neg (by omega)]
    rfl
   ·obtain⟨hc,h⟩:=h.node_inv
    have hc:=of_decide_eq_true hc
    refine pure_ok (run _ (hg _) fun w=> ?_) (.int _ _) h hI hG
    simp only[binOp,Op.shift]
    rw[if_neg (by omega)]
    rfl
   ·rename_i h1 h2
    cases hk:decide (kd=kd')with
    |false=>rw[hk]at h;exact h.no_fail.elim
    |true=>
     rw[hk]at h
     simp only[cond_true]at h
     obtain rfl:=of_decide_eq_true hk
     obtain⟨v,x',g1,g2,g3⟩:=intD_ok (P:=P) (Φ:=Φ) (m:=m) (t:=t) ⟨fun e=>h1 e,fun e=>h2 e⟩ h
     exact pure_ok (run _ (hg _) g3) g2 g1 hI hG
  ·
   rename_i sa sb
   cases hrx with
   |str hsa=>
   rename_i xa
   cases hry with
   |str hsb=>
   rename_i xb
   have hg:∀op,∀w:World,(eqGuard op t f g (.string xa) (.string xb)).run P w= .ok () w:=fun op w=>by cases op<;>simp[eqGuard]
   have ea:xa.toList=sa:=by rw[ByteArray.toList_eq];exact hsa
   have eb:xb.toList=sb:=by rw[ByteArray.toList_eq];exact hsb
   split at h
   ·obtain⟨hc,h⟩:=h.node_inv
    have hc:=of_decide_eq_true hc
    have la:sa.length=xa.size:=by rw[←hsa,Array.length_toList];rfl
    have lb:sb.length=xb.size:=by rw[←hsb,Array.length_toList];rfl
    refine pure_ok (x:= .string (xa++xb)) (run _ (hg _) fun w=> ?_) (.str ?_) h hI hG
    ·simp only[binOp,Op.stringOp]
     rw[if_neg (by simp only[IntKind.max_i64];omega)]
     rfl
    ·rw[ByteArray.data_append,Array.toList_append,hsa,hsb]
   ·refine pure_ok (x:= .bool (decide (sa=sb))) (run _ (hg _) fun w=> ?_) (.bool _) h hI hG
    simp only[binOp,Op.stringOp,ea,eb,Sem.run_pure,beqd]
   ·refine pure_ok (x:= .bool (!decide (sa=sb))) (run _ (hg _) fun w=> ?_) (.bool _) h hI hG
    simp only[binOp,Op.stringOp,ea,eb,Sem.run_pure,beqd]
   ·refine pure_ok (run _ (hg _) fun w=> ?_) (.bool _) h hI hG
    simp only[binOp,Op.stringOp,ea,eb,Sem.run_pure,bytesLt_eq]
   ·refine pure_ok (x:= .bool (bytesLt sa sb||decide (sa=sb))) (run _ (hg _) fun w=> ?_) (.bool _) h hI hG
    simp only[binOp,Op.stringOp,ea,eb,Sem.run_pure,bytesLt_eq,beqd]
   ·refine pure_ok (x:= .bool (!(bytesLt sa sb||decide (sa=sb)))) (run _ (hg _) fun w=> ?_) (.bool _) h hI hG
    simp only[binOp,Op.stringOp,ea,eb,Sem.run_pure,bytesLt_eq,beqd]
   ·refine pure_ok (run _ (hg _) fun w=> ?_) (.bool _) h hI hG
    simp only[binOp,Op.stringOp,ea,eb,Sem.run_pure,bytesLt_eq]
   ·exact h.no_fail.elim
  ·
   rename_i xs ys
   obtain⟨xa,rfl,hxa⟩:=hrx.agg_inv
   obtain⟨ya,rfl,hya⟩:=hry.agg_inv
   split at h
   ·rename_i sz_ ag_ fl_ ze_ by_ cm_ hti
    obtain⟨ii,de,hii,_,_,hund,hsh,hag,_⟩:=hP.get (hX▸hti)
    have hsh':=hsh
    obtain⟨fs,rfl,_⟩:=hsh'
    have hagg:=hag.2 (.inl ⟨fs,rfl⟩)
    have key:∀ {c:Bool},eqT X.cfg 8 t xs ys=some c→∀w:World,(Op.equalIn 10000 t (.agg xa) (.agg ya)).run P w= .ok c w∧∀op:BinOp,(eqGuard op t f g (.agg xa) (.agg ya)).run P w= .ok () w:=fun {c} hc w=>by
     refine⟨eqT_ok hP hX 8 (Φ:=Φ) (m:=m) hti hc (by rw[hagg];exact⟨_,rfl,hxa⟩) (by rw[hagg];exact⟨_,rfl,hya⟩) 10000 (by omega) w,fun op=> ?_⟩
     have hcmp:cm_=true:=by
      simp only[eqT,hti]at hc
      cases cm_ with
      |true=>rfl
      |false=>cases hc
     exact run_eqGuard_agg w op t f g xa ya (hP.eqs t _ fs (hX▸hti) hcmp hund).2.1
    split at h
    ·split at h
     ·rename_i c hc
      refine pure_ok (run _ (fun w=>(key hc w).2 _) fun w=> ?_) (.bool c) h hI hG
      rw[run_eql_struct w,(key hc w).1];rfl
     ·exact h.no_fail.elim
    ·split at h
     ·rename_i c hc
      refine pure_ok (run _ (fun w=>(key hc w).2 _) fun w=> ?_) (.bool (!c)) h hI hG
      rw[run_neq_struct w,(key hc w).1];rfl
     ·exact h.no_fail.elim
    ·exact h.no_fail.elim
   ·rename_i sz_ ag_ l_ e_ fl_ ze_ by_ cm_ hti
    obtain⟨ii,de,hii,_,_,hund,hsh,hag,_⟩:=hP.get (hX▸hti)
    have hsh':=hsh
    obtain⟨rfl,_⟩:=hsh'
    have hagg:=hag.2 (.inr ⟨l_,e_,rfl⟩)
    have key:∀ {c:Bool},eqT X.cfg 8 t xs ys=some c→∀w:World,(Op.equalIn 10000 t (.agg xa) (.agg ya)).run P w= .ok c w∧∀op:BinOp,(eqGuard op t f g (.agg xa) (.agg ya)).run P w= .ok () w:=fun {c} hc w=>by
     refine⟨eqT_ok hP hX 8 (Φ:=Φ) (m:=m) hti hc (by rw[hagg];exact⟨_,rfl,hxa⟩) (by rw[hagg];exact⟨_,rfl,hya⟩) 10000 (by omega) w,fun op=> ?_⟩
     have hcmp:cm_=true:=by
      simp only[eqT,hti]at hc
      cases cm_ with
      |true=>rfl
      |false=>cases hc
     exact run_eqGuard_agg w op t f g xa ya (hP.eqa t _ l_ e_ (hX▸hti) hcmp hund)
    split at h
    ·split at h
     ·rename_i c hc
      refine pure_ok (run _ (fun w=>(key hc w).2 _) fun w=> ?_) (.bool c) h hI hG
      rw[run_eql_struct w,(key hc w).1];rfl
     ·exact h.no_fail.elim
    ·split at h
     ·rename_i c hc
      refine pure_ok (run _ (fun w=>(key hc w).2 _) fun w=> ?_) (.bool (!c)) h hI hG
      rw[run_neq_struct w,(key hc w).1];rfl
     ·exact h.no_fail.elim
    ·exact h.no_fail.elim
   ·exact h.no_fail.elim
  ·
   rename_i hni hns _
   have nb:∀(w:World) c,(Op.equal t u v).run P w= .ok c w→eqShape X.cfg t x=true→(binOp .eql t u v).run P w= .ok (.bool c) w∧(binOp .neq t u v).run P w= .ok (.bool (!c)) w:=by
    intro w c hc hs
    have h0:∀kd i,u≠ .int kd i:=by
     rintro kd i rfl
     cases hrx<;>(unfold eqShape at hs;split at hs<;>(try split at hs)<;>simp_all)
    have h1:∀sx,u≠ .string sx:=by
     rintro sx rfl
     cases hrx<;>(unfold eqShape at hs;split at hs<;>(try split at hs)<;>simp_all)
    have h2:∀kd bb,u≠ .float kd bb:=by
     rintro kd bb rfl
     cases hrx<;>(unfold eqShape at hs;split at hs<;>(try split at hs)<;>simp_all)
    have h3:∀kd bb cc,u≠ .complex kd bb cc:=by
     rintro kd bb cc rfl
     cases hrx<;>(unfold eqShape at hs;split at hs<;>(try split at hs)<;>simp_all)
    constructor
    ·unfold binOp
     split<;>simp_all
    ·unfold binOp
     split<;>simp_all
   split at h
   ·cases hs:eqShape X.cfg t x with
    |false=>rw[hs]at h;exact h.no_fail.elim
    |true=>
     rw[hs]at h
     simp only[cond_true]at h
     obtain⟨c,g1,g2⟩:=eqD_ok (P:=P) hP hX hs h hnil rfl rfl hrx hry
     exact pure_ok (run _ (fun w=>(g2 w).2.1) fun w=>(nb w c (g2 w).1 hs).1) (.bool _) g1 hI hG
   ·cases hs:eqShape X.cfg t x with
    |false=>rw[hs]at h;exact h.no_fail.elim
    |true=>
     rw[hs]at h
     simp only[cond_true]at h
     obtain⟨c,g1,g2⟩:=eqD_ok (P:=P) hP hX hs h hnil rfl rfl hrx hry
     exact pure_ok (run _ (fun w=>(g2 w).2.2) fun w=>(nb w c (g2 w).1 hs).2) (.bool _) g1 hI hG
   ·exact h.no_fail.elim
 ·exact h.no_fail.elim
end
end Go.Ab
namespace Go.Ab
open Go
section
variable {Φg:Phi} {α:Type} {X:Ctx} {fid:FuncId} {P:Program} {n:Nat} {draw:Bool} {s:St} {o:Oper} {k:Script→DT α} {Q:α→Prop} {a:Act} {w w' w₀:World}
 {Φ Φ' Φ₀:Phi} {m m' i₀:LMap} {Qx:Exit→Act→World→Prop} {tab:Tab}
structure Same (Φ Φ':Phi) (w w':World) (b:Nat):Prop where
 cell:∀o,w'.cell? ⟨b,o,none⟩=w.cell? ⟨b,o,none⟩
 frz:∀o,w'.frozen? ⟨b,o,none⟩=w.frozen? ⟨b,o,none⟩
 shape:w'.shape? b=w.shape? b
 phi:∀o,Φ' b o=Φ b o
theorem BlkOk.keep {st:Site} {B:Blk} (h:BlkOk Φ m w st B) (hm:m' st=m st) (he:Ext Φ m Φ' m') (hw:∀b e z,m st= .at b e z→Same Φ Φ' w w' b):BlkOk Φ' m' w' st B:=by
 cases B with
 |box v wr=>
  obtain⟨b,e,h⟩:=h
  have hs:=hw _ _ _ h.loc
  refine⟨b,e,hm.trans h.loc,by rw[hs.shape];exact h.shape,fun j c hc=> ?_,fun o ho=>by rw[hs.frz];exact h.nf o ho,fun hwr o=>by rw[hs.phi];exact h.phi hwr o⟩
  obtain⟨x,hx,hr⟩:=h.cell j c hc
  exact⟨x,by rw[hs.cell];exact hx,hr.mono he⟩
 |row e xs wr rm=>
  rcases h with⟨h1,h2,h3⟩|⟨b,size,h⟩
  ·exact .inl ⟨hm.trans h1,h2,h3⟩
  ·have hs:=hw _ _ _ h.loc
   refine .inr ⟨b,size,hm.trans h.loc,h.pos,h.len,by rw[hs.shape];exact h.shape,h.each,fun i v j c hv hc=> ?_,fun o ho=>by rw[hs.frz];exact h.nf o ho,fun hwr o=>by rw[hs.phi];exact h.phi hwr o,fun o ho=>h.room o (by rw[←hs.phi];exact ho),h.one⟩
   obtain⟨x,hx,hr⟩:=h.cell i v j c hv hc
   exact⟨x,by rw[hs.cell];exact hx,hr.mono ⟨he.phi,fun _ _ _ _ h=>h⟩⟩
 |gone=>trivial
def upd (m:LMap) (st:Site) (l:Loc):LMap:=fun x=>if x=st then l else m x
theorem upd_same (m:LMap) (st:Site) (l:Loc):upd m st l st=l:=by simp[upd]
theorem upd_ne (m:LMap) {st x:Site} (l:Loc) (h:x≠st):upd m st l x=m x:=by simp[upd,h]
theorem Ext.upd {st:Site} {l:Loc} (h:m st= .none):Ext Φ m Φ (upd m st l):=
 ⟨fun _ _ _ h=>h,fun x b e z hx=>by
   by_cases hs:x=st
   ·subst hs;rw[h]at hx;cases hx
   ·rw[upd_ne _ _ hs];exact hx⟩
theorem same_alloc {ob:Obj} {b:Nat} (hb:b<w.heap.size):Same Φ Φ w (w.alloc ob) b:=
 ⟨fun o=>World.cell?_alloc_lt _ _ _ hb,fun o=>World.frozen?_alloc_old _ _ _ (Nat.ne_of_lt hb),by simp only[World.shape?,World.alloc,Array.getElem?_push];rw[if_neg (Nat.ne_of_lt hb)],fun _=>rfl⟩
theorem Inv.alloc {H:Heap} {st:Site} {B:Blk} {ob:Obj} {e:Nat} {z:Nat×Nat} (hI:Inv Φ m w H) (hs:hget H st=none) (hB:BlkOk Φ (upd m st (.at w.heap.size e z)) (w.alloc ob) st B):
  Inv Φ (upd m st (.at w.heap.size e z)) (w.alloc ob) ((st,B)::H):=by
 have hn:=hI.map st hs
 refine⟨fun b o x hx=> ?_,fun x C hC=> ?_,fun x hx=> ?_, ?_, ?_⟩
 ·have:=hI.phi b o x hx
  rw[World.cell?_alloc_lt _ _ _ (World.block_lt_of_cell? _ _ this)];exact this
 ·by_cases hx:st=x
  ·subst hx;rw[hget_cons_same]at hC;cases hC;exact hB
  ·rw[hget_cons_ne _ _ hx]at hC
   exact(hI.blk x C hC).keep (upd_ne _ _ (Ne.symm hx)) (Ext.upd hn) fun b e z hb=>same_alloc (hI.lt _ _ _ _ hb)
 ·by_cases hxs:st=x
  ·subst hxs;rw[hget_cons_same]at hx;cases hx
  ·rw[hget_cons_ne _ _ hxs]at hx;rw[upd_ne _ _ (Ne.symm hxs)];exact hI.map x hx
 ·intro x x' C C' b e1 z1 e2 z2 hC hC' hl hl' hm hm'
  by_cases hx:st=x
  ·by_cases hx':st=x'
   ·rw[←hx,←hx']
   ·rw[←hx,upd_same]at hm
    rw[upd_ne _ _ (Ne.symm hx')]at hm'
    cases hm
    have:=hI.lt _ _ _ _ hm'
    omega
  ·by_cases hx':st=x'
   ·rw[←hx',upd_same]at hm'
    rw[upd_ne _ _ (Ne.symm hx)]at hm
    cases hm'
    have:=hI.lt _ _ _ _ hm
    omega
   ·rw[hget_cons_ne _ _ hx]at hC
    rw[hget_cons_ne _ _ hx']at hC'
    rw[upd_ne _ _ (Ne.symm hx)]at hm
    rw[upd_ne _ _ (Ne.symm hx')]at hm'
    exact hI.inj _ _ _ _ _ _ _ _ _ hC hC' hl hl' hm hm'
 ·intro x b e1 z1 hm
  rw[World.size_alloc]
  by_cases hx:x=st
  ·subst hx;rw[upd_same]at hm;cases hm;omega
  ·rw[upd_ne _ _ hx]at hm;have:=hI.lt _ _ _ _ hm;omega
theorem Glob.alloc {st:Site} {ob:Obj} {e:Nat} {z:Nat×Nat} (hG:Glob Φg Φ₀ i₀ w₀ Φ m w) (hn:m st= .none):Glob Φg Φ₀ i₀ w₀ Φ (upd m st (.at w.heap.size e z)) (w.alloc ob):=by
 refine⟨hG.phi,hG.phiNew,fun i b e1 z1 h=> ?_,fun x b e1 z1 h=> ?_,fun b hb h=> ?_, ?_,hG.os,hG.out,hG.tape,hG.base⟩
 ·have h1:=hG.inc i b e1 z1 h
  by_cases hx:Site.inc i=st
  ·rw[hx]at h1;rw[hn]at h1;cases h1
  ·rw[upd_ne _ _ hx];exact h1
 ·by_cases hx:x=st
  ·subst hx;rw[upd_same]at h;cases h;exact .inr hG.size
  ·rw[upd_ne _ _ hx]at h;exact hG.own _ _ _ _ h
 ·rw[←hG.same b hb h]
  simp only[World.alloc,Array.getElem?_push]
  rw[if_neg (by have:=hG.size;omega)]
 ·rw[World.size_alloc];have:=hG.size;omega
theorem SatN.noSite_inv {β:Type} {H:Heap} {st:Site} {d:DT β} {Q:β→Prop} (h:SatN X fid n (noSite H st d) Q):hget H st=none∧SatN X fid n d Q:=by
 unfold noSite at h
 split at h
 ·rename_i hh;exact⟨hh,h⟩
 ·exact h.no_fail.elim
theorem Stays.alloc {fx:List Fx} {ob:Obj} :Stays m fx w (w.alloc ob):=fun b hb _=>by
 simp only[World.alloc,Array.getElem?_push]
 rw[if_neg (Nat.ne_of_lt hb)]
theorem alloc_ok {st:Site} {B:Blk} {v:AV} {x:Value} {rd:Acc} {ob:Obj} {e:Nat} {z:Nat×Nat} (hrun:(execOp a.eval o).run P w= .ok (.value x) (w.alloc ob)) (hs:hget s.H st=none)
  (hB:BlkOk Φ (upd m st (.at w.heap.size e z)) (w.alloc ob) st B) (hr:R Φ (upd m st (.at w.heap.size e z)) v x) (h:SatN X fid n (k ⟨v,[.alloc st B],rd⟩) Q)
  (hI:Inv Φ m w s.H) (hG:Glob Φg Φ₀ i₀ w₀ Φ m w):o.wp P a w (After P Φg X fid n k Q Φ₀ i₀ w₀ o s a w Φ m) Qx:=by
 unfold Oper.wp
 rw[hrun]
 exact⟨Φ,_,⟨v,[.alloc st B],rd⟩,x,h,hr,rfl,Ext.upd (hI.map st hs),hI.alloc hs hB,hG.alloc (hI.map st hs),Stays.alloc,fun h=>by cases h⟩
theorem shape_new (c:Array Value) (t:TypeId):(w.alloc (.cells c t)).shape? w.heap.size=some (t,c.size):=by
 unfold World.shape?
 rw[heap_alloc_new]
theorem ref_new {st:Site} {b e:Nat} {z:Nat×Nat} :R Φ (upd m st (.at b e z)) (.ref st 0 0) (.pointer (some ⟨b,0,none⟩)):=by
 have:=R.ref (Φ:=Φ) (m:=upd m st (.at b e z)) (s:=st) (i:=0) (o:=0) (upd_same m st (.at b e z))
 simpa using this
theorem box_new {st:Site} {v:AV} {x:Value} {t:TypeId} {e:Nat} (hn:m st= .none) (hr:Rs Φ m v.cells x.cells.toList) (hphi:∀o,Φ w.heap.size o=none):
  BlkOk Φ (upd m st (.at w.heap.size e (x.cells.size,0))) (w.alloc (.cells x.cells t)) st (.box v true):=by
 have hlen:v.cells.length=x.cells.size:=by simpa using hr.1
 refine⟨w.heap.size,e,⟨by rw[upd_same,hlen],⟨t,by rw[shape_new,hlen]⟩,fun j c hc=> ?_,fun o _=>World.frozen?_alloc_new _ _ _ _,fun _ o=>hphi o⟩⟩
 obtain⟨y,hy,hyr⟩:=hr.2 j c hc
 exact⟨y,by rw[World.cell?_alloc_new];simpa using hy,hyr.mono (Ext.upd hn)⟩
theorem Inv.phi_new {H:Heap} (hI:Inv Φ m w H) (o:Nat):Φ w.heap.size o=none:=by
 cases h:Φ w.heap.size o with
 |none=>rfl
 |some x=>have:=World.block_lt_of_cell? _ _ (hI.phi _ _ _ h);exact absurd this (Nat.lt_irrefl _)
theorem zero_ok (hP:TabOK P tab) (hX:X.cfg.tab=tab) {t:TypeId} {ti:TI} {z:AV} (hti:X.cfg.tab.get t=some ti) (hz:ti.zero=some z):
  ∃v,(∀w:World,(zeroValue t).run P w= .ok v w)∧ofValue v=some z:=by
 obtain⟨i,d,hi,hsz,_,hu,hsh,hag,hzz,_⟩:=hP.get (hX▸hti)
 obtain⟨v,h1,h2⟩:=hzz z hz
 exact⟨v,fun w=>by simp[zeroValue,run_info hi,h1],h2⟩
theorem ofLit_ne_top {v:Value} :ofLit v≠some .top:=by unfold ofLit;split<;>simp
theorem ofValue_ne_top {v:Value} :ofValue v≠some .top:=by
 unfold ofValue
 split
 ·split<;>simp
 ·exact ofLit_ne_top
theorem op_alloc (hP:TabOK P tab) (hX:X.cfg.tab=tab) {t:TypeId} (hop:o.op= .alloc t) (h:SatN X fid n (opR X.cfg draw s o k) Q)
  (hI:Inv Φ m w s.H) (hG:Glob Φg Φ₀ i₀ w₀ Φ m w):o.wp P a w (After P Φg X fid n k Q Φ₀ i₀ w₀ o s a w Φ m) Qx:=by
 unfold opR at h
 rw[hop]at h
 dsimp only at h
 split at h
 ·rename_i sz_ ag_ ds_ fl_ z by_ cm_ hti
  unfold allocD at h
  split at h
  ·obtain⟨hs,h⟩:=h.noSite_inv
   obtain⟨v,h1,h2⟩:=zero_ok hP hX hti rfl
   have hr:Rs Φ m z.cells v.cells.toList:=(R.value h2).cells (fun e=>ofValue_ne_top (e▸h2))
   refine alloc_ok (e:=0) (z:=(v.cells.size,0)) (ob:= .cells v.cells t) (x:= .pointer (some ⟨w.heap.size,0,none⟩)) ?_ hs (box_new (hI.map _ hs) hr hI.phi_new) ?_ h hI hG
   ·simp only[execOp,hop,Instr.alloc,Sem.run_bind,h1,Result.andThen_ok,newVar,newRow,run_newObj,Sem.run_pure,World.alloc_eq]
   ·exact ref_new
  ·exact h.no_fail.elim
 ·exact h.no_fail.elim
theorem allOne_ne_top {v:AV} (h:allOneCell v.cells=true):v≠ .top:=by
 rintro rfl;simp[AV.cells,allOneCell,isOneCell]at h
theorem op_box {t:TypeId} {y:Operand} (hop:o.op= .box t y) (h:SatN X fid n (opR X.cfg draw s o k) Q) (hT:RT Φ m s.T a.tmps)
  (hI:Inv Φ m w s.H) (hG:Glob Φg Φ₀ i₀ w₀ Φ m w):o.wp P a w (After P Φg X fid n k Q Φ₀ i₀ w₀ o s a w Φ m) Qx:=by
 unfold opR at h
 rw[hop]at h
 dsimp only at h
 split at h
 ·rename_i v hv
  cases hone:allOneCell v.cells with
  |false=>rw[hone]at h;exact h.no_fail.elim
  |true=>
   rw[hone]at h
   simp only[cond_true]at h
   unfold allocD at h
   split at h
   ·obtain⟨hs,h⟩:=h.noSite_inv
    have hr:=(opnd_eval hT hv).cells (allOne_ne_top hone)
    refine alloc_ok (e:=0) (z:=((a.eval y).cells.size,0)) (ob:= .cells (a.eval y).cells t) (x:= .pointer (some ⟨w.heap.size,0,none⟩)) ?_ hs (box_new (hI.map _ hs) hr hI.phi_new) ?_ h hI hG
    ·simp only[execOp,hop,Instr.box,Sem.run_bind,Result.andThen_ok,newVar,newRow,run_newObj,Sem.run_pure,World.alloc_eq]
    ·exact ref_new
   ·exact h.no_fail.elim
 ·exact h.no_fail.elim
end
end Go.Ab
namespace Go.Ab
open Go
section
variable {Φg:Phi} {α:Type} {X:Ctx} {fid:FuncId} {P:Program} {n:Nat} {draw:Bool} {s:St} {o:Oper} {k:Script→DT α} {Q:α→Prop} {a:Act} {w w' w₀:World}
 {Φ Φ' Φ₀:Phi} {m m' i₀:LMap} {Qx:Exit→Act→World→Prop} {tab:Tab}
theorem setRun:∀(l:List Value) (n off:Nat) (cs:Array Value),off+n+l.length≤cs.size→
  ((l.zipIdx n).foldl (fun(cs:Array Value) (p:Value×Nat)=>cs.setIfInBounds (off+p.2) p.1) cs).toList=cs.toList.take (off+n)++l++cs.toList.drop (off+n+l.length)
 | [],n,off,cs,_=>by simp
 |v::r,n,off,cs,h=>by
  simp only[List.length_cons]at h
  rw[List.zipIdx_cons,List.foldl_cons,setRun r (n+1) off (cs.setIfInBounds (off+n) v) (by simp;omega)]
  simp only[Array.toList_setIfInBounds]
  have hlt:off+n<cs.toList.length:=by rw[Array.length_toList];omega
  have ht:(cs.toList.set (off+n) v).take (off+n+1)=cs.toList.take (off+n)++[v]:=by
   rw[List.set_eq_take_append_cons_drop,if_pos hlt,List.take_append]
   have:(cs.toList.take (off+n)).length=off+n:=by rw[List.length_take];omega
   rw[this,List.take_of_length_le (by omega),show off+n+1-(off+n)=1 by omega]
   rfl
  rw[show off+(n+1)=off+n+1 by omega,List.drop_set_of_lt (by omega),ht,show off+n+1+r.length=off+n+(v::r).length by simp;omega]
  simp
theorem fill_one {place:Nat→Option (Nat×Nat)} {cells:Array Value} {i off size:Nat} {v:Value} {rest:List (Nat×Value)} (hp:place i=some (off,size)) (hs:v.cells.size=size) (hb:off+size≤cells.size):
  Instr.fill place cells ((i,v)::rest)=Instr.fill place (cells.toList.take off++v.cells.toList++cells.toList.drop (off+size)).toArray rest:=by
 rw[Instr.fill,hp]
 simp only
 rw[if_neg (by simp[hs];omega)]
 congr 1
 have:=setRun v.cells.toList 0 off cells (by simpa[hs]using hb)
 rw[←Array.toList_inj]
 rw[←Array.foldl_toList,Array.toList_zipIdx]
 simpa[hs]using this
theorem setCells_eq:∀(l:List AV) (o:Nat) (ds:List AV),o+ds.length≤l.length→setCells l o ds=l.take o++ds++l.drop (o+ds.length)
 | [],o,ds,h=>by simp at h;obtain⟨rfl,h⟩:=h;have:ds= [] :=by simpa using h
                 subst this;rfl
 |c::r,0,[],_=>by simp[setCells]
 |c::r,0,d::ds,h=>by
  simp only[setCells]
  rw[setCells_eq r 0 ds (by simp at h ⊢;omega)]
  simp
 |c::r,o+1,ds,h=>by
  simp only[setCells]
  rw[setCells_eq r o ds (by simp at h ⊢;omega)]
  simp[Nat.add_right_comm]
theorem fillD_ok (hP:TabOK P tab) {cfg:Cfg} (hc:cfg.tab=tab) {fs:List (Nat×TypeId)} {place:Nat→Option (Nat×Nat)}
  (hpl:∀(i off t:Nat) (fi:TI),fs[i]? =some (off,t)→tab.get t=some fi→place i=some (off,fi.sz)):
  ∀ {l:List (Nat×AV)} {vs:List (Nat×Value)} {cs cs':List AV} {xs:Array Value},fillD cfg cs fs l=some cs'→(l.map (·.1)=vs.map (·.1))→Rs Φ m (l.map (·.2)) (vs.map (·.2))→Rs Φ m cs xs.toList→
   ∃ys,Instr.fill place xs vs=some ys∧Rs Φ m cs' ys.toList
 | [],vs,cs,cs',xs,h,h1,h2,h3=>by
  simp only[fillD,Option.some.injEq]at h
  subst h
  cases vs with
  |nil=>exact⟨xs,rfl,h3⟩
  |cons=>simp at h1
 |(i,v)::r,vs,cs,cs',xs,h,h1,h2,h3=>by
  cases vs with
  |nil=>simp at h1
  |cons u us=>
   obtain⟨i',y⟩:=u
   simp only[List.map_cons,List.cons.injEq]at h1
   obtain⟨rfl,h1⟩:=h1
   simp only[fillD]at h
   split at h
   ·rename_i off t hf
    split at h
    ·rename_i fi hfi
     cases hb:(Nat.beq v.cells.length fi.sz&&Nat.ble (off+fi.sz) cs.length&&allOneCell v.cells)with
     |false=>rw[hb]at h;cases h
     |true=>
      rw[hb]at h
      simp only[Bool.and_eq_true,Nat.beq_eq]at hb
      obtain⟨⟨hb1,hb2⟩,hb3⟩:=hb
      have hb2:=Nat.le_of_ble_eq_true hb2
      simp only[List.map_cons]at h2
      obtain⟨y',r',he,hr,hrs⟩:=h2.inv_cons
      cases he
      have hvc:=hr.cells (allOne_ne_top hb3)
      have hlen:xs.size=cs.length:=by have:=h3.1;simpa using this.symm
      have hylen:y.cells.size=fi.sz:=by have:=hvc.1;rw[←hb1];simpa using this.symm
      obtain⟨ys,g1,g2⟩:=fillD_ok hP hc hpl (l:=r) (vs:=us) (xs:=(xs.toList.take off++y.cells.toList++xs.toList.drop (off+fi.sz)).toArray) h h1 hrs (by
       rw[setCells_eq _ _ _ (by omega),hb1]
       exact((h3.take off).append hvc).append (h3.drop (off+fi.sz)))
      exact⟨ys,by rw[fill_one (hpl i off t fi hf (hc▸hfi)) hylen (by omega)];exact g1,g2⟩
    ·cases h
   ·cases h
theorem parts_ok (hT:RT Φ m s.T a.tmps):∀ {ps:List (Nat×Operand)} {l:List (Nat×AV)},parts s ps=some l→
  l.map (·.1)=(ps.map fun p=>(p.1,a.eval p.2)).map (·.1)∧Rs Φ m (l.map (·.2)) ((ps.map fun p=>(p.1,a.eval p.2)).map (·.2))
 | [],l,h=>by simp only[parts,Option.some.injEq]at h;subst h;exact⟨rfl,.nil⟩
 |(i,x)::r,l,h=>by
  simp only[parts]at h
  split at h
  ·rename_i v hv
   split at h
   ·rename_i l' hl'
    cases h
    obtain⟨h1,h2⟩:=parts_ok hT hl'
    exact⟨by simp only[List.map_cons,h1],.cons (opnd_eval hT hv) h2⟩
   ·cases h
  ·cases h
theorem mapM_ok {β γ:Type} :∀(l:List β) (g:β→Sem γ) (h:β→γ),(∀x∈l,(g x).run P w= .ok (h x) w)→(l.mapM g).run P w= .ok (l.map h) w
 | [],_,_,_=>rfl
 |x::r,g,h,hh=>by
  simp only[List.mapM_cons,Sem.run_bind,hh x (List.mem_cons_self ..),Result.andThen_ok,mapM_ok r g h (fun y hy=>hh y (List.mem_cons_of_mem _ hy)),Sem.run_pure,List.map_cons]
theorem op_build (hP:TabOK P tab) (hX:X.cfg.tab=tab) {t:TypeId} {ps:Array (Nat×Operand)} (hop:o.op= .build t ps) (h:SatN X fid n (opR X.cfg draw s o k) Q) (hT:RT Φ m s.T a.tmps)
  (hI:Inv Φ m w s.H) (hG:Glob Φg Φ₀ i₀ w₀ Φ m w):o.wp P a w (After P Φg X fid n k Q Φ₀ i₀ w₀ o s a w Φ m) Qx:=by
 unfold opR at h
 rw[hop]at h
 dsimp only at h
 split at h
 ·rename_i ti l hti hl
  obtain⟨ii,d,hii,hsz,_,hu,hsh,hag,hzz,harr⟩:=hP.get (hX▸hti)
  obtain⟨hl1,hl2⟩:=parts_ok (a:=a) hT hl
  split at h
  ·rename_i z hagg hz
   split at h
   ·rename_i cs hcs
    rw[spine_eq]at h
    obtain⟨zv,hz1,hz2⟩:=zero_ok hP hX hti hz
    have hzr:Rs Φ m z.cells zv.cells.toList:=(R.value hz2).cells (fun e=>ofValue_ne_top (e▸hz2))
    have hmap:(ps.map fun x=>match x with|(i,x)=>(i,a.eval x)).toList=ps.toList.map fun p=>(p.1,a.eval p.2):=by simp
    rcases hag.1 hagg with⟨fs,rfl⟩|⟨ne,et,rfl⟩
    ·
     obtain⟨hlen,hfs⟩:=harr.2 fs rfl
     have hrun:∀w:World,_:=fun w=>mapM_ok (P:=P) (w:=w) fs.toList (fun f=>do pure (f.offset,←sizeOf f.type)) (fun f=>(f.offset,P.cellsOf f.type)) (fun f hf=>by
      obtain⟨i,hi⟩:=List.getElem?_of_mem hf
      obtain⟨_,fi,hfi⟩:=hfs i f (by simpa using hi)
      obtain⟨ifo,d',hif,hsz',_⟩:=hP.get hfi
      simp[run_size hif,Program.cellsOf,hif])
     obtain⟨ys,h1,h2⟩:=fillD_ok hP hX (place:=fun i=>((fs.toList.map fun f=>(f.offset,P.cellsOf f.type)).toArray[i]?)) (fun i off t fi hf hfi=>by
      have:i<fs.size:=by
       rcases Nat.lt_or_ge i fs.size with h'|h'
       ·exact h'
       ·exfalso
        have:=(List.getElem?_eq_some_iff.1 hf).1
        omega
      have hg:fs[i]? =some fs[i]:=by simp[this]
      obtain⟨h3,fi',h4⟩:=hfs i _ hg
      rw[hf]at h3
      cases h3
      obtain⟨ifo,d',hif,hsz',_⟩:=hP.get hfi
      simp[hg,Program.cellsOf,hif,hsz']) hcs hl1 hl2 hzr
     refine pure_ok (x:= .agg ys) ?_ (.aggs h2) h hI hG
     intro w1 _
     simp only[execOp,hop,Instr.build,Sem.run_bind,hz1,Result.andThen_ok,run_under hu,Array.mapM_eq_mapM_toList,Sem.run_map,hrun,hmap]
     have h1':Instr.fill (fun x=>(fs.toList.map fun f=>(f.offset,P.cellsOf f.type)).toArray[x]?) zv.cells (ps.toList.map fun p=>(p.1,a.eval p.2))=some ys:=h1
     rw[h1']
     simp
    ·
     obtain⟨⟨te,hte,hfo⟩,_⟩:=(⟨harr.1 ne et rfl,trivial⟩:(∃te,tab.get et=some te∧∀(j o u:Nat),ti.fields[j]? =some (o,u)→o=j*te.sz∧u=et)∧True)
     obtain⟨ie,de,hie,hsze,_⟩:=hP.get hte
     obtain⟨ys,h1,h2⟩:=fillD_ok hP hX (place:=fun i=>some (i*te.sz,te.sz)) (fun i off t fi hf hfi=>by
      obtain⟨h3,h4⟩:=hfo i off t hf
      subst h4
      rw[hte]at hfi
      cases hfi
      rw[h3]) hcs hl1 hl2 hzr
     refine pure_ok (x:= .agg ys) ?_ (.aggs h2) h hI hG
     intro w1 _
     simp only[execOp,hop,Instr.build,Sem.run_bind,hz1,Result.andThen_ok,run_under hu,run_size hie,hmap,hsze]
     rw[h1]
     simp
   ·exact h.no_fail.elim
  ·exact h.no_fail.elim
 ·exact h.no_fail.elim
end
end Go.Ab
namespace Go.Ab
open Go
section
variable {Φg Φ Φ' Φ₀:Phi} {m m' i₀ μ:LMap} {w w' w₀:World} {H:Heap}
theorem R.noref {v:AV} {x:Value} (h:R Φ m v x):∀ {Φ':Phi} {μ:LMap},AV.hasRef v=false→(∀b o y,Φ b o=some y→Φ' b o=some y)→R Φ' μ v x:=by
 have lst:∀(l:List AV),AV.hasRefs l=false→∀(j:Nat) (v:AV),l[j]? =some v→AV.hasRef v=false:=by
  intro l
  induction l with
  |nil=>intro _ j v hv;simp at hv
  |cons c r ih=>
   intro hl j v hv
   simp only[AV.hasRefs,Bool.or_eq_false_iff]at hl
   cases j with
   |zero=>simp at hv;subst hv;exact hl.1
   |succ j=>exact ih hl.2 j v (by simpa using hv)
 induction h with
 |bool b=>exact fun _ _=> .bool b
 |int k n=>exact fun _ _=> .int k n
 |str h=>exact fun _ _=> .str h
 |nilp=>exact fun _ _=> .nilp
 |raw h=>exact fun _ _=> .raw h
 |nils=>exact fun h=>by simp[AV.hasRef]at h
 |nilf=>exact fun _ _=> .nilf
 |nili=>exact fun _ _=> .nili
 |iface _ ih=>exact fun h e=> .iface (ih (by simpa[AV.hasRef]using h) e)
 |func h1 h2 _ _ ih1 ih2=>
  exact fun h e=>by
   simp only[AV.hasRef,Bool.or_eq_false_iff]at h
   exact .func h1 h2 (fun j v x hv hx=>ih1 j v x hv hx (lst _ h.1 j v hv) e) (fun j v x hv hx=>ih2 j v x hv hx (lst _ h.2 j v hv) e)
 |agg h1 _ ih=>exact fun h e=> .agg h1 (fun j v x hv hx=>ih j v x hv hx (lst _ (by simpa[AV.hasRef]using h) j v hv) e)
 |tuple h1 _ ih=>exact fun h e=> .tuple h1 (fun j v x hv hx=>ih j v x hv hx (lst _ (by simpa[AV.hasRef]using h) j v hv) e)
 |tree0=>exact fun _ _=> .tree0
 |tree esz f h1 h2 h3 h4 h5 _=>exact fun _ e=> .tree esz f h1 h2 (fun i v j c hv hc=>e _ _ _ (h3 i v j c hv hc)) (fun i v j c hv hc=>(h4 i v j c hv hc).mono ⟨e,fun _ _ _ _ h=>h⟩) h5
 |cptr f h1 h2 _=>exact fun _ e=> .cptr f (fun j c hc=>e _ _ _ (h1 j c hc)) (fun j c hc=>(h2 j c hc).mono ⟨e,fun _ _ _ _ h=>h⟩)
 |ref h=>exact fun h=>by simp[AV.hasRef]at h
 |sref0=>exact fun h=>by simp[AV.hasRef]at h
 |sref h h1 h2=>exact fun h=>by simp[AV.hasRef]at h
 |top=>exact fun h=>by simp[AV.hasRef]at h
def Blk.body:Blk→Nat
 | .box v _=>v.cells.length
 | .row e xs _ _=>xs.length*e
 | .gone=>0
open Classical in
noncomputable def frzPhi (Φ:Phi) (m:LMap) (w:World) (H:Heap) (L:List Site):Phi:=fun b o=>
 if∃s B e z,s∈L∧hget H s=some B∧m s= .at b e z∧o<B.body then w.cell? ⟨b,o,none⟩else Φ b o
theorem frzPhi_old {L:List Site} (hI:Inv Φ m w H) {b o:Nat} {x:Value} (h:Φ b o=some x):frzPhi Φ m w H L b o=some x:=by
 unfold frzPhi
 split
 ·exact hI.phi b o x h
 ·exact h
theorem frzPhi_in {L:List Site} {s:Site} {B:Blk} {b e o:Nat} {z:Nat×Nat} (hs:s∈L) (hB:hget H s=some B) (hm:m s= .at b e z) (ho:o<B.body):frzPhi Φ m w H L b o=w.cell? ⟨b,o,none⟩:=by
 unfold frzPhi
 rw[if_pos ⟨s,B,e,z,hs,hB,hm,ho⟩]
theorem frzPhi_valid {L:List Site} (hI:Inv Φ m w H) {b o:Nat} {x:Value} (h:frzPhi Φ m w H L b o=some x):w.cell? ⟨b,o,none⟩=some x:=by
 unfold frzPhi at h
 split at h
 ·exact h
 ·exact hI.phi b o x h
theorem frzPhi_ext {L:List Site} (hI:Inv Φ m w H):Ext Φ m (frzPhi Φ m w H L) m:=⟨fun _ _ _ h=>frzPhi_old hI h,fun _ _ _ _ h=>h⟩
def Keeps (all:Bool) (m μ:LMap):Prop:=all=false→∀i b e z,m (.inc i)= .at b e z→μ (.inc i)= .at b e z
theorem hasRefs_at:∀ {l:List AV} {j:Nat} {v:AV},AV.hasRefs l=false→l[j]? =some v→AV.hasRef v=false
 | [],_,_,_,h=>by simp at h
 |c::r,0,v,hl,h=>by
  simp only[AV.hasRefs,Bool.or_eq_false_iff]at hl
  simp at h;subst h;exact hl.1
 |c::r,j+1,v,hl,h=>by
  simp only[AV.hasRefs,Bool.or_eq_false_iff]at hl
  exact hasRefs_at hl.2 (by simpa using h)
theorem hasRef_cells {v:AV} (h:AV.hasRef v=false) {j:Nat} {c:AV} (hc:v.cells[j]? =some c):AV.hasRef c=false:=by
 by_cases hag:∃cs,v= .agg cs
 ·obtain⟨cs,rfl⟩:=hag
  exact hasRefs_at (by simpa[AV.hasRef]using h) (by simpa[AV.cells]using hc)
 ·have hcl:v.cells=[v]:=by cases v<;>first|rfl|exact absurd ⟨_,rfl⟩ hag
  rw[hcl]at hc
  cases j with
  |zero=>simp at hc;subst hc;exact h
  |succ j=>simp at hc
theorem cptr_of {L:List Site} {st:Site} {v u:AV} {wr:Bool} {b e:Nat} {xs:List Value} (hg:hget H st=some (.box v wr)) (hbox:BoxOk Φ m w st v wr b e) (hs:st∈L)
  (hxs:∀j x,xs[j]? =some x→w.cell? ⟨b,j,none⟩=some x) (hr:Rs (frzPhi Φ m w H L) m0 u.cells xs) (hlen:xs.length=v.cells.length):R (frzPhi Φ m w H L) μ (.cptr u) (.pointer (some ⟨b,0,none⟩)):=by
 refine .cptr (fun j=>xs.getD j default) (fun j c hc=> ?_) (fun j c hc=> ?_)
 ·obtain⟨x,hx,_⟩:=hr.2 j c hc
  have hj:j<xs.length:=(List.getElem?_eq_some_iff.1 hx).1
  rw[Nat.zero_add,frzPhi_in hs hg hbox.loc (by simp only[Blk.body];omega),hxs j x hx,List.getD_eq_getElem?_getD,hx]
  rfl
 ·obtain⟨x,hx,hxr⟩:=hr.2 j c hc
  rw[List.getD_eq_getElem?_getD,hx]
  exact hxr
mutual
theorem closeV_ok (hI:Inv Φ m w H):∀ {all:Bool} {n:Nat} {L:List Site} {v v':AV} {L':List Site} {x:Value},closeV H all n L v=some (v',L')→R Φ m v x→
  (∀s∈L,s∈L')∧∀ {μ:LMap} {L'':List Site},Keeps all m μ→(∀s∈L',s∈L'')→R (frzPhi Φ m w H L'') μ v' x
 |_,0,_,_,_,_,_,h,_=>by simp[closeV]at h
 |all,n+1,L,v,v',L',x,h,hr=>by
  unfold closeV at h
  cases hh:AV.hasRef v with
  |false=>
   rw[hh]at h
   simp only[cond_false,Option.some.injEq,Prod.mk.injEq]at h
   obtain⟨rfl,rfl⟩:=h
   exact⟨fun _ h=>h,fun {μ L''} _ hL=>hr.noref hh (fun _ _ _ h=>frzPhi_old hI h)⟩
  |true=>
   rw[hh]at h
   simp only[cond_true]at h
   split at h
   ·
    obtain⟨xs,rfl,hrs⟩:=hr.agg_inv
    split at h
    ·rename_i l L1 hl
     cases h
     obtain⟨h1,h2⟩:=closeVs_ok hI hl hrs
     exact⟨h1,fun hk hL=> .aggs (h2 hk hL)⟩
    ·cases h
   ·obtain⟨xs,rfl,hrs⟩:=hr.tuple_inv
    split at h
    ·rename_i l L1 hl
     cases h
     obtain⟨h1,h2⟩:=closeVs_ok hI hl hrs
     exact⟨h1,fun hk hL=> .tuples (h2 hk hL)⟩
    ·cases h
   ·split at h
    ·rename_i l L1 hl
     cases h
     cases hr with
     |iface hr=>
      obtain⟨h1,h2⟩:=closeV_ok hI hl hr
      exact⟨h1,fun hk hL=> .iface (h2 hk hL)⟩
    ·cases h
   ·split at h
    ·rename_i l1 L1 hl1
     split at h
     ·rename_i l2 L2 hl2
      cases h
      obtain⟨xs,ys,rfl,hr1,hr2⟩:=hr.func_inv
      obtain⟨h1,h2⟩:=closeVs_ok hI hl1 hr1
      obtain⟨h3,h4⟩:=closeVs_ok hI hl2 hr2
      exact⟨fun s hs=>h3 s (h1 s hs),fun hk hL=> .funcs (h2 hk fun s hs=>hL s (h3 s hs)) (h4 hk hL)⟩
     ·cases h
    ·cases h
   ·cases h
    cases hr with
    |nils=>exact⟨fun _ h=>h,fun _ _=> .tree0⟩
   ·
    rename_i st i o
    cases hb:(!all&&st.isInc)with
    |true=>
     rw[hb]at h
     cases h
     simp only[Bool.and_eq_true,Bool.not_eq_true']at hb
     cases hr with
     |ref hm=>
      cases st<;>simp[Site.isInc]at hb
      exact⟨fun _ h=>h,fun hk _=> .ref (hk hb _ _ _ _ hm)⟩
    |false=>
     rw[hb]at h
     simp only[cond_false]at h
     split at h
     ·rename_i u wr hg
      cases hr with
      |ref hm=>
       rename_i b e z
       obtain⟨b',e',hbox⟩:=hI.blk _ _ hg
       have hl:=hbox.loc
       rw[hm]at hl
       cases hl
       obtain⟨xs,hxs,hcs⟩:=hbox.lies.list
       have hcs':∀j x,xs[j]? =some x→w.cell? ⟨b,j,none⟩=some x:=fun j x hx=>by have:=hcs j x hx;rwa [Nat.zero_add]at this
       have hlen:xs.length=u.cells.length:=hxs.1.symm
       rw[Nat.zero_mul,Nat.zero_add]
       cases hhu:AV.hasRef u with
       |false=>
        rw[hhu]at h
        cases h
        exact⟨fun s hs=>List.mem_cons_of_mem _ hs,fun {μ L''} _ hL=>cptr_of hg hbox (hL _ (List.mem_cons_self ..)) hcs'
         (Rs.mk' hxs.1 fun j c x hc hx=>(hxs.at hc hx).noref (hasRef_cells hhu hc) (fun _ _ _ h=>frzPhi_old hI h)) hlen⟩
       |true=>
        rw[hhu]at h
        simp only[cond_true]at h
        split at h
        ·rename_i cs
         split at h
         ·rename_i cs' L1 hcl
          cases h
          obtain⟨h1,h2⟩:=closeVs_ok hI hcl (xs:=xs) (by simpa[AV.cells]using hxs)
          exact⟨fun s hs=>h1 s (List.mem_cons_of_mem _ hs),fun {μ L''} _ hL=>cptr_of hg hbox (hL _ (h1 _ (List.mem_cons_self ..))) hcs'
           (by simpa[AV.cells]using h2 (μ:=m0) (fun h=>by cases h) hL) hlen⟩
         ·cases h
        ·rename_i hna
         have hcl:u.cells=[u]:=by cases u<;>first|rfl|exact absurd rfl (hna _)
         rw[hcl]at hxs
         obtain⟨y,r,rfl,hy,hys⟩:=hxs.inv_cons
         obtain rfl:=hys.inv_nil
         split at h
         ·rename_i u' L1 hu
          cases hone:isOneCell u' with
          |false=>rw[hone]at h;cases h
          |true=>
           rw[hone]at h
           cases h
           obtain⟨h1,h2⟩:=closeV_ok hI hu hy
           exact⟨fun s hs=>h1 s (List.mem_cons_of_mem _ hs),fun {μ L''} _ hL=>cptr_of hg hbox (hL _ (h1 _ (List.mem_cons_self ..))) hcs'
            (by rw[isOneCell_cells hone];exact .cons (h2 (μ:=m0) (fun h=>by cases h) hL) .nil) hlen⟩
         ·cases h
     ·cases h
   ·
    rename_i st lo len
    cases hb:(!all&&st.isInc)with
    |true=>
     rw[hb]at h
     cases h
     simp only[Bool.and_eq_true,Bool.not_eq_true']at hb
     cases hr with
     |sref0=>exact⟨fun _ h=>h,fun _ _=> .sref0⟩
     |sref hm h1 h2 h3=>
      cases st<;>simp[Site.isInc]at hb
      exact⟨fun _ h=>h,fun hk _=> .sref (hk hb _ _ _ _ hm) h1 h2 h3⟩
    |false=>
     rw[hb]at h
     simp only[cond_false]at h
     split at h
     ·rename_i e xs wr rm hg
      split at h
      ·cases h
       refine⟨fun s hs=>List.mem_cons_of_mem _ hs,fun {μ L''} _ hL=> ?_⟩
       cases hr with
       |sref0=>simpa using R.tree0
       |sref hm h1 h2 h3=>
        rename_i cap b e' z
        rcases hI.blk _ _ hg with⟨hn,_⟩|⟨b',z',hrow⟩
        ·rw[hm]at hn;cases hn
        ·have hl:=hrow.loc
         rw[hm]at hl
         cases hl
         have hlen:(xs.take len).length=len:=by rw[List.length_take];simp at h3;omega
         have hget:∀i v,(xs.take len)[i]? =some v→xs[i]? =some v:=fun i v hi=>by
          rw[List.getElem?_take]at hi
          split at hi
          ·exact hi
          ·cases hi
         have key:R (frzPhi Φ m w H L'') μ (.tree (xs.take len)) (.slice (some ⟨b,0*e,none⟩) (xs.take len).length cap):=by
          refine .tree e (fun i j=>(w.cell? ⟨b,i*e+j,none⟩).getD default) (by omega) (fun i v hi=>hrow.each i v (hget i v hi)) (fun i v j c hi hj=> ?_) (fun i v j c hi hj=> ?_) (fun i v hi=>hrow.one i v (hget i v hi))
          ·obtain⟨x,hx,_⟩:=hrow.cell i v j c (hget i v hi) hj
           have hlt:=(List.getElem?_eq_some_iff.1 (hget i v hi)).1
           have hjl:=(List.getElem?_eq_some_iff.1 hj).1
           rw[hrow.each i v (hget i v hi)]at hjl
           have hbd:i*e+j<xs.length*e:=by
            have:(i+1)*e≤xs.length*e:=Nat.mul_le_mul_right e hlt
            rw[Nat.add_mul]at this
            omega
           rw[show 0*e+i*e+j=i*e+j by omega,frzPhi_in (hL _ (List.mem_cons_self ..)) hg hrow.loc (by simpa[Blk.body]using hbd),hx]
           rfl
          ·obtain⟨x,hx,hxr⟩:=hrow.cell i v j c (hget i v hi) hj
           simp only[hx,Option.getD_some]
           exact hxr.mono ⟨fun _ _ _ h=>frzPhi_old hI h,fun _ _ _ _ h=>h⟩
         rwa [hlen]at key
      ·cases h
     ·cases h
   ·cases h
theorem closeVs_ok (hI:Inv Φ m w H):∀ {all:Bool} {n:Nat} {L:List Site} {vs vs':List AV} {L':List Site} {xs:List Value},closeVs H all n L vs=some (vs',L')→Rs Φ m vs xs→
  (∀s∈L,s∈L')∧∀ {μ:LMap} {L'':List Site},Keeps all m μ→(∀s∈L',s∈L'')→Rs (frzPhi Φ m w H L'') μ vs' xs
 |_,0,_,_,_,_,_,h,_=>by simp[closeVs]at h
 |_,n+1,L,[],vs',L',xs,h,hr=>by
  simp only[closeVs,Option.some.injEq,Prod.mk.injEq]at h
  obtain⟨rfl,rfl⟩:=h
  rw[hr.inv_nil]
  exact⟨fun _ h=>h,fun _ _=> .nil⟩
 |all,n+1,L,v::r,vs',L',xs,h,hr=>by
  simp only[closeVs]at h
  split at h
  ·rename_i v1 L1 hv
   split at h
   ·rename_i r1 L2 hr1
    cases h
    obtain⟨x,ys,rfl,hx,hys⟩:=hr.inv_cons
    obtain⟨h1,h2⟩:=closeV_ok hI hv hx
    obtain⟨h3,h4⟩:=closeVs_ok hI hr1 hys
    exact⟨fun s hs=>h3 s (h1 s hs),fun hk hL=> .cons (h2 hk fun s hs=>hL s (h3 s hs)) (h4 hk hL)⟩
   ·cases h
  ·cases h
end
def Blk.frz:Blk→Blk
 | .box v _=> .box v false
 | .row e xs _ rm=> .row e xs false rm
 | .gone=> .gone
theorem frz_app (H:Heap) (s:Site):Fx.app H (.frz s)=(match hget H s with|some B=>hset H s B.frz|none=>H)∨hget H s=some .gone:=by
 simp only[Fx.app]
 split
 ·rename_i hg;rw[hg];exact .inl rfl
 ·rename_i hg;rw[hg];exact .inl rfl
 ·rename_i h1 h2
  cases hg:hget H s with
  |none=>exact .inl rfl
  |some B=>cases B with
   |box v wr=>exact absurd hg (h2 v wr)
   |row e xs wr rm=>exact absurd hg (h1 e xs wr rm)
   |gone=>exact .inr rfl
theorem hget_frz1 (H:Heap) (s x:Site):hget (Fx.app H (.frz s)) x=(hget H x).map (fun B=>if x=s then B.frz else B):=by
 rcases frz_app H s with h|h
 ·rw[h]
  cases hg:hget H s with
  |none=>
   simp only
   by_cases hx:x=s
   ·subst hx;simp[hg]
   ·simp[hx]
  |some B=>
   simp only
   by_cases hx:x=s
   ·subst hx;rw[hget_hset_same hg,hg];simp
   ·rw[hget_hset_ne (Ne.symm hx)];simp[hx]
 ·have:Fx.app H (.frz s)=H:=by simp[Fx.app,h]
  rw[this]
  by_cases hx:x=s
  ·subst hx;rw[h];simp[Blk.frz]
  ·simp[hx]
theorem Blk.frz_frz (B:Blk):B.frz.frz=B.frz:=by cases B<;>rfl
theorem hget_frz:∀(L:List Site) (H:Heap) (x:Site),hget (fxApp H (frzAll L)) x=(hget H x).map (fun B=>if x∈L then B.frz else B)
 | [],H,x=>by simp[frzAll,fxApp]
 |s::r,H,x=>by
  simp only[frzAll,fxApp]
  rw[hget_frz r,hget_frz1,Option.map_map]
  congr 1
  funext B
  by_cases hx:x=s
  ·subst hx;by_cases hr:x∈r<;>simp[hr,Blk.frz_frz]
  ·by_cases hr:x∈r<;>simp[hr,hx]
theorem Blk.frz_live (B:Blk):B.frz.live↔B.live:=by cases B<;>simp[Blk.frz,Blk.live]
theorem Inv.frz (L:List Site) (hI:Inv Φ m w H):Inv (frzPhi Φ m w H L) m w (fxApp H (frzAll L)):=by
 have hp:∀ {s:Site} {B:Blk} {b e:Nat} {z:Nat×Nat},hget H s=some B→B.live→m s= .at b e z→s∉L→∀o,frzPhi Φ m w H L b o=Φ b o:=by
  intro s B b e z hg hl hm hs o
  unfold frzPhi
  split
  ·rename_i hh
   obtain⟨s',B',e',z',h1,h2,h3,h4⟩:=hh
   have hl':B'.live:=by cases B'<;>simp_all[Blk.live,Blk.body]
   have:=hI.inj _ _ _ _ _ _ _ _ _ hg h2 hl hl' hm h3
   subst this
   exact absurd h1 hs
  ·rfl
 refine⟨fun b o x h=>frzPhi_valid hI h,fun s B hB=> ?_,fun s hs=> ?_,fun s s' B B' b e z e' z' h1 h2 h3 h4 h5 h6=> ?_,hI.lt⟩
 ·rw[hget_frz]at hB
  cases hg:hget H s with
  |none=>rw[hg]at hB;simp at hB
  |some C=>
   rw[hg]at hB
   simp only[Option.map_some,Option.some.injEq]at hB
   have hC:=hI.blk s C hg
   subst hB
   by_cases hs:s∈L
   ·rw[if_pos hs]
    cases C with
    |box v wr=>
     obtain⟨b,e,h⟩:=hC
     refine⟨b,e,h.loc,h.shape,fun j c hc=> ?_,h.nf,fun h=>by cases h⟩
     obtain⟨x,hx,hr⟩:=h.cell j c hc
     exact⟨x,hx,hr.mono (frzPhi_ext hI)⟩
    |row e xs wr rm=>
     rcases hC with hC|⟨b,z,h⟩
     ·exact .inl hC
     ·refine .inr ⟨b,z,h.loc,h.pos,h.len,h.shape,h.each,fun i v j c hv hc=> ?_,h.nf,(fun h=>by cases h),fun o ho=> ?_,h.one⟩
      ·obtain⟨x,hx,hr⟩:=h.cell i v j c hv hc
       exact⟨x,hx,hr.mono ⟨fun _ _ _ h=>frzPhi_old hI h,fun _ _ _ _ h=>h⟩⟩
      ·unfold frzPhi at ho
       split at ho
       ·rename_i hh
        obtain⟨s',B',e',z',h1,h2,h3,h4⟩:=hh
        have hl':B'.live:=by cases B'<;>simp_all[Blk.live,Blk.body]
        have:=hI.inj s s' _ _ _ _ _ _ _ hg h2 trivial hl' h.loc h3
        subst this
        rw[hg]at h2
        cases h2
        exact h4
       ·exact h.room o ho
    |gone=>trivial
   ·rw[if_neg hs]
    by_cases hl:C.live
    ·cases C with
     |box v wr=>
      obtain⟨b,e,h⟩:=hC
      refine⟨b,e,h.loc,h.shape,fun j c hc=> ?_,h.nf,fun hw o=>by rw[hp hg hl h.loc hs];exact h.phi hw o⟩
      obtain⟨x,hx,hr⟩:=h.cell j c hc
      exact⟨x,hx,hr.mono (frzPhi_ext hI)⟩
     |row e xs wr rm=>
      rcases hC with hC|⟨b,z,h⟩
      ·exact .inl hC
      ·refine .inr ⟨b,z,h.loc,h.pos,h.len,h.shape,h.each,fun i v j c hv hc=> ?_,h.nf,fun hw o=>by rw[hp hg hl h.loc hs];exact h.phi hw o,fun o ho=>h.room o (by rw[←hp hg hl h.loc hs];exact ho),h.one⟩
       obtain⟨x,hx,hr⟩:=h.cell i v j c hv hc
       exact⟨x,hx,hr.mono ⟨fun _ _ _ h=>frzPhi_old hI h,fun _ _ _ _ h=>h⟩⟩
     |gone=>trivial
    ·cases C<;>simp_all[Blk.live];trivial
 ·rw[hget_frz]at hs
  exact hI.map s (by cases hg:hget H s with|none=>rfl|some C=>rw[hg]at hs;simp at hs)
 ·rw[hget_frz]at h1 h2
  cases hg:hget H s with
  |none=>rw[hg]at h1;simp at h1
  |some C=>
   cases hg':hget H s' with
   |none=>rw[hg']at h2;simp at h2
   |some C'=>
    rw[hg]at h1
    rw[hg']at h2
    simp only[Option.map_some,Option.some.injEq]at h1 h2
    refine hI.inj s s' C C' b e z e' z' hg hg' ?_ ?_ h5 h6
    ·subst h1;split at h3
     ·exact(Blk.frz_live C).1 h3
     ·exact h3
    ·subst h2;split at h4
     ·exact(Blk.frz_live C').1 h4
     ·exact h4
theorem Glob.frz (L:List Site) (hI:Inv Φ m w H) (hG:Glob Φg Φ₀ i₀ w₀ Φ m w):Glob Φg Φ₀ i₀ w₀ (frzPhi Φ m w H L) m w:=by
 refine⟨fun b o x h=>frzPhi_old hI (hG.phi b o x h),fun b o h h0=> ?_,hG.inc,hG.own,hG.same,hG.size,hG.os,hG.out,hG.tape,hG.base⟩
 unfold frzPhi at h
 split at h
 ·rename_i hh
  obtain⟨s',B',e',z',h1,h2,h3,h4⟩:=hh
  exact hG.own _ _ _ _ h3
 ·exact hG.phiNew b o h h0
end
end Go.Ab
namespace Go.Ab
open Go
section
variable {Φg:Phi} {α:Type} {X:Ctx} {fid:FuncId} {P:Program} {n:Nat} {draw:Bool} {s:St} {o:Oper} {k:Script→DT α} {Q:α→Prop} {a:Act} {w w' w₀:World}
 {Φ Φ' Φ₀:Phi} {m m' i₀:LMap} {Qx:Exit→Act→World→Prop} {tab:Tab}
theorem flat_at:∀ {xs:List AV} {e i j:Nat} {v c:AV},(∀u∈xs,u.cells.length=e)→xs[i]? =some v→v.cells[j]? =some c→(xs.flatMap AV.cells)[i*e+j]? =some c
 | [],e,i,j,v,c,_,h,_=>by simp at h
 |u::r,e,0,j,v,c,he,h,hc=>by
  simp at h;subst h
  rw[List.flatMap_cons,Nat.zero_mul,Nat.zero_add,List.getElem?_append_left]
  ·exact hc
  ·exact(List.getElem?_eq_some_iff.1 hc).1
 |u::r,e,i+1,j,v,c,he,h,hc=>by
  rw[List.flatMap_cons,List.getElem?_append_right]
  ·have:=flat_at (xs:=r) (e:=e) (fun u hu=>he u (List.mem_cons_of_mem _ hu)) (by simpa using h) hc
   rw[he u (List.mem_cons_self ..),show(i+1)*e+j-e=i*e+j by rw[Nat.add_mul];omega]
   exact this
  ·rw[he u (List.mem_cons_self ..),Nat.add_mul];omega
theorem flat_len:∀ {xs:List AV} {e:Nat},(∀u∈xs,u.cells.length=e)→(xs.flatMap AV.cells).length=xs.length*e
 | [],e,_=>by simp
 |u::r,e,he=>by
  rw[List.flatMap_cons,List.length_append,he u (List.mem_cons_self ..),flat_len (e:=e) (fun u hu=>he u (List.mem_cons_of_mem _ hu)),List.length_cons,Nat.add_mul];omega
theorem row_new {st:Site} {xs:List AV} {e:Nat} {cs:Array Value} {t:TypeId} {wr rm:Bool} (hpos:0<e) (he:∀u∈xs,u.cells.length=e) (h1:∀u∈xs,allOneCell u.cells=true) (hr:Rs Φ m0 (xs.flatMap AV.cells) (cs.toList.take (xs.length*e)))
  (hphi:∀o,Φ w.heap.size o=none):
  BlkOk Φ (upd m st (.at w.heap.size e (cs.size,xs.length))) (w.alloc (.cells cs t)) st (.row e xs wr rm):=by
 have hlen:xs.length*e≤cs.size:=by
  have:=hr.1
  rw[flat_len he,List.length_take]at this
  simp at this;omega
 refine .inr ⟨w.heap.size,cs.size,upd_same _ _ _,hpos,hlen,⟨t,shape_new _ _⟩,fun i v hv=>he v (List.mem_of_getElem? hv),fun i v j c hv hc=> ?_,fun o _=>World.frozen?_alloc_new _ _ _ _,fun _ o=>hphi o,fun o ho=>absurd (hphi o) ho,fun i v hv=>h1 v (List.mem_of_getElem? hv)⟩
 obtain⟨x,hx,hxr⟩:=hr.2 _ _ (flat_at he hv hc)
 refine⟨x, ?_,hxr⟩
 rw[World.cell?_alloc_new]
 rw[List.getElem?_take]at hx
 split at hx
 ·simpa using hx
 ·cases hx
theorem sref_new {st:Site} {b e len size:Nat} (h:len*e≤size):R Φ (upd m st (.at b e (size,len))) (.sref st 0 len) (.slice (some ⟨b,0,none⟩) len len):=by
 have:=R.sref (Φ:=Φ) (m:=upd m st (.at b e (size,len))) (s:=st) (lo:=0) (len:=len) (cap:=len) (upd_same m st (.at b e (size,len))) (Nat.le_refl _) (by simpa using h) (by simp)
 simpa using this
theorem sref_new' {st:Site} {b e len cap size:Nat} (h:len≤cap) (h':cap*e≤size):R Φ (upd m st (.at b e (size,len))) (.sref st 0 len) (.slice (some ⟨b,0,none⟩) len cap):=by
 have:=R.sref (Φ:=Φ) (m:=upd m st (.at b e (size,len))) (s:=st) (lo:=0) (len:=len) (cap:=cap) (upd_same m st (.at b e (size,len))) h (by simpa using h') (by simp)
 simpa using this
theorem frz_alloc_ok {L:List Site} {st:Site} {B:Blk} {v:AV} {x:Value} {rd:Acc} {ob:Obj} {e:Nat} {z:Nat×Nat} (hrun:(execOp a.eval o).run P w= .ok (.value x) (w.alloc ob)) (hs:hget s.H st=none)
  (hI:Inv Φ m w s.H) (hG:Glob Φg Φ₀ i₀ w₀ Φ m w)
  (hB:BlkOk (frzPhi Φ m w s.H L) (upd m st (.at w.heap.size e z)) (w.alloc ob) st B) (hr:R (frzPhi Φ m w s.H L) (upd m st (.at w.heap.size e z)) v x) (h:SatN X fid n (k ⟨v,frzAll L++[.alloc st B],rd⟩) Q):
  o.wp P a w (After P Φg X fid n k Q Φ₀ i₀ w₀ o s a w Φ m) Qx:=by
 unfold Oper.wp
 rw[hrun]
 have hI':=hI.frz L
 have hs':hget (fxApp s.H (frzAll L)) st=none:=by rw[hget_frz,hs];rfl
 have happ:∀(l r:List Fx) (H:Heap),fxApp H (l++r)=fxApp (fxApp H l) r:=by
  intro l
  induction l with
  |nil=>intro r H;rfl
  |cons f l ih=>intro r H;exact ih r _
 refine⟨_,_,⟨v,frzAll L++[.alloc st B],rd⟩,x,h,hr,rfl,(frzPhi_ext hI).trans (Ext.upd (hI.map st hs)), ?_, ?_,Stays.alloc,fun h=>by simp at h⟩
 ·simp only[happ]
  exact hI'.alloc hs' hB
 ·exact(hG.frz L hI).alloc (hI.map st hs)
theorem allCells_ok {e:Nat} :∀ {xs:List AV},allCells e xs=true→∀u∈xs,u.cells.length=e∧allOneCell u.cells=true
 | [],_,u,h=>by simp at h
 |v::r,h,u,hu=>by
  simp only[allCells,Bool.and_eq_true,Nat.beq_eq]at h
  rcases List.mem_cons.1 hu with rfl|hu
  ·exact⟨h.1.1,h.1.2⟩
  ·exact allCells_ok h.2 u hu
theorem closeV_one {H:Heap} {all:Bool} {n:Nat} {L L':List Site} {v v':AV} (h:closeV H all n L v=some (v',L')) (h1:isOneCell v=true):isOneCell v'=true:=by
 cases n with
 |zero=>simp[closeV]at h
 |succ n=>
  unfold closeV at h
  cases hh:AV.hasRef v with
  |false=>rw[hh]at h;cases h;exact h1
  |true=>
   rw[hh]at h
   simp only[cond_true]at h
   split at h
   ·cases h1
   ·cases h1
   ·split at h<;>cases h;rfl
   ·split at h
    ·split at h<;>cases h;rfl
    ·cases h
   ·cases h;rfl
   ·rename_i st i o
    cases hb:(!all&&st.isInc)with
    |true=>rw[hb]at h;cases h;rfl
    |false=>
     rw[hb]at h
     simp only[cond_false]at h
     split at h
     ·rename_i u wr hg
      cases hu:AV.hasRef u with
      |false=>rw[hu]at h;cases h;rfl
      |true=>
       rw[hu]at h
       simp only[cond_true]at h
       split at h
       ·split at h<;>cases h;rfl
       ·split at h
        ·rename_i v2 L2 _
         cases ho:isOneCell v2 with
         |true=>rw[ho]at h;cases h;rfl
         |false=>rw[ho]at h;cases h
        ·cases h
     ·cases h
   ·rename_i st lo len
    cases hb:(!all&&st.isInc)with
    |true=>rw[hb]at h;cases h;rfl
    |false=>
     rw[hb]at h
     simp only[cond_false]at h
     split at h
     ·split at h
      ·cases h;rfl
      ·cases h
     ·cases h
   ·cases h
theorem closeVs_all {H:Heap} {all:Bool} :∀ {n:Nat} {L L':List Site} {vs vs':List AV},closeVs H all n L vs=some (vs',L')→allOneCell vs=true→allOneCell vs'=true
 | 0,_,_,_,_,h,_=>by simp[closeVs]at h
 |n+1,L,L',[],vs',h,_=>by simp only[closeVs,Option.some.injEq,Prod.mk.injEq]at h;obtain⟨rfl,_⟩:=h;rfl
 |n+1,L,L',v::r,vs',h,h1=>by
  simp only[allOneCell,Bool.and_eq_true]at h1
  unfold closeVs at h
  split at h
  ·rename_i v' L1 hv
   split at h
   ·rename_i r' L2 hr
    cases h
    simp only[allOneCell,Bool.and_eq_true]
    exact⟨closeV_one hv h1.1,closeVs_all hr h1.2⟩
   ·cases h
  ·cases h
theorem closeV_cells {H:Heap} {all:Bool} {n:Nat} {L L':List Site} {v v':AV} (h:closeV H all n L v=some (v',L')) (h1:allOneCell v.cells=true):allOneCell v'.cells=true:=by
 by_cases hag:∃cs,v= .agg cs
 ·obtain⟨cs,rfl⟩:=hag
  cases n with
  |zero=>simp[closeV]at h
  |succ n=>
   unfold closeV at h
   cases hh:AV.hasRef (.agg cs)with
   |false=>rw[hh]at h;cases h;exact h1
   |true=>
    rw[hh]at h
    simp only[cond_true]at h
    split at h
    ·rename_i l L1 hl
     cases h
     exact closeVs_all hl h1
    ·cases h
 ·have hcl:v.cells=[v]:=by cases v<;>first|rfl|exact absurd ⟨_,rfl⟩ hag
  rw[hcl]at h1
  simp only[allOneCell,Bool.and_true]at h1
  have:=closeV_one h h1
  rw[isOneCell_cells this]
  simp[allOneCell,this]
theorem closeVs_each {H:Heap} {all:Bool} :∀ {n:Nat} {L L':List Site} {vs vs':List AV},closeVs H all n L vs=some (vs',L')→(∀v∈vs,allOneCell v.cells=true)→∀u∈vs',allOneCell u.cells=true
 | 0,_,_,_,_,h,_=>by simp[closeVs]at h
 |n+1,L,L',[],vs',h,_=>by
  simp only[closeVs,Option.some.injEq,Prod.mk.injEq]at h
  obtain⟨rfl,_⟩:=h
  intro u hu;cases hu
 |n+1,L,L',v::r,vs',h,h1=>by
  unfold closeVs at h
  split at h
  ·rename_i v' L1 hv
   split at h
   ·rename_i r' L2 hr
    cases h
    intro u hu
    rcases List.mem_cons.1 hu with rfl|hu
    ·exact closeV_cells hv (h1 v (List.mem_cons_self ..))
    ·exact closeVs_each hr (fun w hw=>h1 w (List.mem_cons_of_mem _ hw)) u hu
   ·cases h
  ·cases h
theorem Rs.flat:∀ {vs:List AV} {xs:List Value},Rs Φ m vs xs→(∀u∈vs,u≠ .top)→Rs Φ m (vs.flatMap AV.cells) (xs.flatMap fun x=>x.cells.toList)
 | [],xs,h,_=>by rw[h.inv_nil];exact .nil
 |v::r,xs,h,ht=>by
  obtain⟨x,ys,rfl,hx,hys⟩:=h.inv_cons
  simp only[List.flatMap_cons]
  exact(hx.cells (ht v (List.mem_cons_self ..))).append (Rs.flat hys fun u hu=>ht u (List.mem_cons_of_mem _ hu))
theorem fill_run {e:Nat} :∀(l:List (Nat×Value)) (n:Nat) (arr:Array Value),l.map (·.1)=List.range' n l.length→(∀p∈l,p.2.cells.size=e)→n*e+l.length*e≤arr.size→
  Instr.fill (fun i=>some (i*e,e)) arr l=some (arr.toList.take (n*e)++l.flatMap (fun p=>p.2.cells.toList)++arr.toList.drop (n*e+l.length*e)).toArray
 | [],n,arr,_,_,h=>by simp[Instr.fill]
 |(i,v)::r,n,arr,h1,h2,h3=>by
  simp only[List.map_cons,List.length_cons,List.range'_succ,List.cons.injEq]at h1
  obtain⟨rfl,h1⟩:=h1
  have hv:=h2 (i,v) (List.mem_cons_self ..)
  simp only[List.length_cons,Nat.add_mul]at h3
  rw[fill_one (off:=i*e) (size:=e) rfl hv (by omega)]
  rw[fill_run r (i+1) _ h1 (fun p hp=>h2 p (List.mem_cons_of_mem _ hp)) (by simp only[List.size_toArray,List.length_append,List.length_take,List.length_drop,Array.length_toList];rw[hv,Nat.add_mul];omega)]
  have hA:(arr.toList.take (i*e)).length=i*e:=by rw[List.length_take,Array.length_toList];omega
  have hC:v.cells.toList.length=e:=by rw[Array.length_toList,hv]
  have hB:(arr.toList.take (i*e)++v.cells.toList).length=(i+1)*e:=by rw[List.length_append,hA,hC,Nat.add_mul];omega
  congr 2
  rw[List.take_left' hB,List.drop_append,List.drop_eq_nil_of_le (by rw[hB];omega),List.nil_append,hB,List.drop_drop,List.flatMap_cons]
  simp only[List.append_assoc,List.append_cancel_left_eq]
  congr 1
  simp only[List.length_cons,Nat.add_mul,Nat.one_mul]
  omega
theorem fl_aux:∀(l:List (Nat×Value)),l.flatMap (fun p=>p.2.cells.toList)=(l.map (·.2)).flatMap fun x=>x.cells.toList
 | [] =>rfl
 |a::l=>by simp only[List.flatMap_cons,List.map_cons,fl_aux l]
theorem inOrder_ok:∀ {l:List (Nat×AV)} {n:Nat} {xs:List AV},inOrder n l=some xs→l.map (·.1)=List.range' n l.length∧l.map (·.2)=xs
 | [],n,xs,h=>by simp only[inOrder,Option.some.injEq]at h;subst h;exact⟨rfl,rfl⟩
 |(i,v)::r,n,xs,h=>by
  simp only[inOrder]at h
  cases hb:Nat.beq i n with
  |false=>rw[hb]at h;cases h
  |true=>
   rw[hb]at h
   simp only[Nat.beq_eq]at hb
   subst hb
   simp only[cond_true]at h
   split at h
   ·rename_i l' hl'
    cases h
    obtain⟨h1,h2⟩:=inOrder_ok hl'
    exact⟨by simp[List.range'_succ,h1],by simp[h2]⟩
   ·cases h
theorem closeV_ne_top {H:Heap} {all:Bool} {n:Nat} {L L':List Site} {v v':AV} (h:closeV H all n L v=some (v',L')):v'≠ .top:=by
 cases n with
 |zero=>simp[closeV]at h
 |succ n=>
  unfold closeV at h
  cases hh:AV.hasRef v with
  |false=>
   rw[hh]at h
   simp only[cond_false,Option.some.injEq,Prod.mk.injEq]at h
   obtain⟨rfl,_⟩:=h
   rintro rfl
   simp[AV.hasRef]at hh
  |true=>
   rw[hh]at h
   simp only[cond_true]at h
   split at h
   ·split at h<;>cases h;simp
   ·split at h<;>cases h;simp
   ·split at h<;>cases h;simp
   ·split at h
    ·split at h<;>cases h;simp
    ·cases h
   ·cases h;simp
   ·rename_i st i o
    cases hb:(!all&&st.isInc)with
    |true=>rw[hb]at h;cases h;simp
    |false=>
     rw[hb]at h
     simp only[cond_false]at h
     split at h
     ·rename_i u wr hg
      cases hhu:AV.hasRef u with
      |false=>rw[hhu]at h;cases h;simp
      |true=>
       rw[hhu]at h
       simp only[cond_true]at h
       split at h
       ·split at h<;>cases h;simp
       ·split at h
        ·rename_i u' L1 hu
         cases hone:isOneCell u' with
         |false=>rw[hone]at h;cases h
         |true=>rw[hone]at h;cases h;simp
        ·cases h
     ·cases h
   ·rename_i st lo len
    cases hb:(!all&&st.isInc)with
    |true=>rw[hb]at h;cases h;simp
    |false=>
     rw[hb]at h
     simp only[cond_false]at h
     split at h
     ·split at h<;>cases h;simp
     ·cases h
   ·cases h
theorem closeVs_ne_top {H:Heap} {all:Bool} :∀ {n:Nat} {L L':List Site} {vs vs':List AV},closeVs H all n L vs=some (vs',L')→∀u∈vs',u≠ .top
 | 0,_,_,_,_,h=>by simp[closeVs]at h
 |n+1,L,L',[],vs',h=>by
  simp only[closeVs,Option.some.injEq,Prod.mk.injEq]at h
  obtain⟨rfl,_⟩:=h
  intro u hu;cases hu
 |n+1,L,L',v::r,vs',h=>by
  simp only[closeVs]at h
  split at h
  ·rename_i v1 L1 hv
   split at h
   ·rename_i r1 L2 hr1
    cases h
    intro u hu
    rcases List.mem_cons.1 hu with rfl|hu
    ·exact closeV_ne_top hv
    ·exact closeVs_ne_top hr1 u hu
   ·cases h
  ·cases h
theorem Rs.cellsLen {μ:LMap} {vs us:List AV} {xs:List Value} {e:Nat} (h:Rs Φ m vs xs) (h':Rs Φ' μ us xs) (he:∀v∈vs,v.cells.length=e∧v≠ .top) (ht:∀u∈us,u≠ .top):∀u∈us,u.cells.length=e:=by
 intro u hu
 obtain⟨j,hj⟩:=List.getElem?_of_mem hu
 obtain⟨x,hx,hr⟩:=h'.2 j u hj
 have hj':j<vs.length:=by rw[h.1];exact(List.getElem?_eq_some_iff.1 hx).1
 have hv:vs[j]? =some vs[j]:=by simp[hj']
 have hrv:=h.at hv hx
 obtain⟨h1,h2⟩:=he _ (List.getElem_mem hj')
 have a:=(hr.cells (ht u hu)).1
 have b:=(hrv.cells h2).1
 omega
theorem buildSlice_run {t e:TypeId} {ie:TypeInfo} {zv:Value} {cs:Array Value} {len:Nat} {parts:Array (Nat×Value)} (hu:P.underlying t=some (.slice e)) (hie:P.info? e=some ie)
  (hz:(zeroValue e).run P w= .ok zv w) (h24:¬len*ie.size>2 ^ 24) (hf:Instr.fill (fun i=>some (i*ie.size,ie.size)) ((Array.range (len*ie.size)).map (zv.cells[· %zv.cells.size]!)) parts.toList=some cs):
  (Instr.buildSlice t len parts).run P w= .ok (.slice (some ⟨w.heap.size,0,none⟩) len len) (w.alloc (.cells cs e)):=by
 unfold Instr.buildSlice
 simp only[Sem.run_bind,run_under hu,Result.andThen_ok,run_size hie,h24,if_false]
 by_cases h0:len*ie.size=0
 ·simp only[h0,if_true]
  have:Instr.fill (fun i=>some (i*ie.size,ie.size)) ((Array.range 0).map ((#[] :Array Value)[· %(#[] :Array Value).size]!)) parts.toList=some cs:=by
   have hr0:Array.range 0= #[] :=by simp
   rw[←hf,h0,hr0,Array.map_empty,Array.map_empty]
  simp only[Sem.run_bind,Sem.run_pure,Result.andThen_ok,this,newRow,run_newObj,World.alloc_eq]
 ·simp only[h0,if_false,Sem.run_bind,hz,Sem.run_pure,Result.andThen_ok,hf,newRow,run_newObj,World.alloc_eq]
theorem op_buildSlice (hP:TabOK P tab) (hX:X.cfg.tab=tab) {t:TypeId} {len:Nat} {ps:Array (Nat×Operand)} (hop:o.op= .buildSlice t len ps) (h:SatN X fid n (opR X.cfg draw s o k) Q) (hT:RT Φ m s.T a.tmps)
  (hI:Inv Φ m w s.H) (hG:Glob Φg Φ₀ i₀ w₀ Φ m w):o.wp P a w (After P Φg X fid n k Q Φ₀ i₀ w₀ o s a w Φ m) Qx:=by
 unfold opR at h
 rw[hop]at h
 dsimp only at h
 split at h
 ·rename_i sz_ ag_ e_ fl_ ze_ by_ cm_ l hti hl
  obtain⟨ii,d,hii,hsz,_,hu,hsh,hag,_⟩:=hP.get (hX▸hti)
  have hd:=shOk_slice hsh rfl
  subst hd
  obtain⟨hl1,hl2⟩:=parts_ok (a:=a) hT hl
  split at h
  ·rename_i te hte
   obtain⟨ie,de,hie,hsze,_⟩:=hP.get (hX▸hte)
   split at h
   ·rename_i xs hxs
    obtain⟨ho1,rfl⟩:=inOrder_ok hxs
    cases hb:(Nat.beq (l.map (·.2)).length len&&Nat.blt 0 te.sz&&allCells te.sz (l.map (·.2))&&Nat.ble (len*te.sz) 16777216&&te.zero.isSome)with
    |false=>rw[hb]at h;exact h.no_fail.elim
    |true=>
     rw[hb]at h
     simp only[cond_true]at h
     simp only[Bool.and_eq_true,Nat.beq_eq]at hb
     obtain⟨⟨⟨⟨hb1,hb2⟩,hb3⟩,hb4⟩,hb5⟩:=hb
     have hb2:0<te.sz:=by simpa using hb2
     have hb4:=Nat.le_of_ble_eq_true hb4
     obtain⟨z,hz⟩:=Option.isSome_iff_exists.1 hb5
     obtain⟨zv,hz1,hz2⟩:=zero_ok hP hX hte hz
     split at h
     ·rename_i xs' L hcl
      rw[spine_eq]at h
      split at h
      ·rename_i dst hdst
       obtain⟨hs,h⟩:=h.noSite_inv
       let vs:List (Nat×Value):=ps.toList.map fun p=>(p.1,a.eval p.2)
       have hvs:Rs Φ m (l.map (·.2)) (vs.map (·.2)):=hl2
       have hmap:(ps.map fun x=>match x with|(i,x)=>(i,a.eval x)).toList=vs:=by simp[vs]
       have hall:=allCells_ok hb3
       have hvl:vs.length=len:=by have:=hvs.1;simp at this;rw[←hb1];simpa[vs]using this.symm
       have hvc:∀p∈vs,p.2.cells.size=te.sz:=by
        intro p hp
        obtain⟨j,hj⟩:=List.getElem?_of_mem (List.mem_map_of_mem (f:=(·.2)) hp)
        have hj':j<(l.map (·.2)).length:=by rw[hvs.1];exact(List.getElem?_eq_some_iff.1 hj).1
        have hv:(l.map (·.2))[j]? =some (l.map (·.2))[j]:=by rw[List.getElem?_eq_getElem hj']
        have hr:=hvs.at hv hj
        obtain⟨h1,h2⟩:=hall _ (List.getElem_mem hj')
        have:=(hr.cells (allOne_ne_top h2)).1
        rw[h1]at this;simpa using this.symm
       let arr:Array Value:=(Array.range (len*te.sz)).map (zv.cells[· %zv.cells.size]!)
       have harr:arr.size=len*te.sz:=by simp[arr]
       have hfill:=fill_run vs 0 arr (by
        have:vs.map (·.1)=l.map (·.1):=hl1.symm
        rw[this,ho1,hvl,←hb1,List.length_map]) hvc (by rw[harr,hvl];omega)
       have hfl:(vs.flatMap fun p=>p.2.cells.toList)=(vs.map (·.2)).flatMap fun x=>x.cells.toList:=fl_aux vs
       let cs:Array Value:=(arr.toList.take (0*te.sz)++vs.flatMap (fun p=>p.2.cells.toList)++arr.toList.drop (0*te.sz+vs.length*te.sz)).toArray
       obtain⟨_,hclr⟩:=closeVs_ok hI hcl hvs
       have hclr:=hclr (μ:=m0) (L'':=L) (fun h=>by cases h) (fun s hs=>hs)
       have hnt:=closeVs_ne_top hcl
       have hcells:∀u∈xs',u.cells.length=te.sz:=hvs.cellsLen hclr (fun v hv=>⟨(hall v hv).1,allOne_ne_top (hall v hv).2⟩) hnt
       have hxl:xs'.length=len:=by rw[hclr.1,List.length_map,hvl]
       have hcs:cs.toList=(vs.map (·.2)).flatMap fun x=>x.cells.toList:=by
        simp only[cs,Nat.zero_mul,List.take_zero,List.nil_append,Nat.zero_add]
        rw[List.drop_eq_nil_of_le (by rw[Array.length_toList,harr,hvl];exact Nat.le_refl _),List.append_nil,hfl]
       have hflat:=hclr.flat hnt
       have hcsz:cs.size=len*te.sz:=by
        have:=hflat.1
        rw[flat_len hcells,hxl,←hcs,Array.length_toList]at this;exact this.symm
       refine frz_alloc_ok (L:=L) (e:=te.sz) (z:=(cs.size,xs'.length)) (ob:= .cells cs e_) (x:= .slice (some ⟨w.heap.size,0,none⟩) len len) ?_ hs hI hG (row_new hb2 hcells (closeVs_each hcl fun v hv=>(hall v hv).2) ?_ ?_) ?_ h
       ·have hcs':Instr.fill (fun i=>some (i*ie.size,ie.size)) ((Array.range (len*ie.size)).map (zv.cells[· %zv.cells.size]!)) (ps.map fun x=>match x with|(i,x)=>(i,a.eval x)).toList=some cs:=by
         rw[hmap,hsze];exact hfill
        have:=buildSlice_run (len:=len) (parts:=ps.map fun x=>match x with|(i,x)=>(i,a.eval x)) hu hie (hz1 w) (by rw[hsze];omega) hcs'
        simp only[execOp,hop,Sem.run_bind,this,Result.andThen_ok,Sem.run_pure]
       ·rw[hxl]
        have:cs.toList.take (len*te.sz)=cs.toList:=List.take_of_length_le (by rw[Array.length_toList,hcsz];exact Nat.le_refl _)
        rw[this,hcs]
        exact hflat
       ·intro oo
        have hn:=hI.phi_new oo
        have hI':=hI.frz L
        exact hI'.phi_new oo
       ·rw[hxl]
        exact sref_new (by rw[hcsz];exact Nat.le_refl _)
      ·exact h.no_fail.elim
     ·exact h.no_fail.elim
   ·exact h.no_fail.elim
  ·exact h.no_fail.elim
 ·exact h.no_fail.elim
end
end Go.Ab
namespace Go.Ab
open Go
section
variable {Φg Φ Φ' Φ₀:Phi} {m m' i₀ μ:LMap} {w w' w₀:World} {H:Heap} {ρ:Ren}
def Ren.inv:Ren→Site→Option Site
 | [],_=>none
 |(a,c)::r,s=>bif Site.eq c s then some a else Ren.inv r s
def renMap (m:LMap) (ρ:Ren):LMap:=fun s=>match ρ.inv s with|some a=>m a|none=> .none
theorem fstIn_get:∀ {ρ:Ren} {s:Site},fstIn s ρ=false→ρ.get s=none
 | [],_,_=>rfl
 |(a,c)::r,s,h=>by
  simp only[fstIn,Bool.or_eq_false_iff]at h
  simp only[Ren.get,h.1,cond_false]
  exact fstIn_get h.2
theorem sndIn_inv:∀ {ρ:Ren} {s:Site},sndIn s ρ=false→ρ.inv s=none
 | [],_,_=>rfl
 |(a,c)::r,s,h=>by
  simp only[sndIn,Bool.or_eq_false_iff]at h
  simp only[Ren.inv,h.1,cond_false]
  exact sndIn_inv h.2
theorem get_inv:∀ {ρ:Ren},renOk ρ=true→∀ {s s':Site},ρ.get s=some s'→ρ.inv s'=some s
 | [],_,_,_,h=>by cases h
 |(a,c)::r,ho,s,s',h=>by
  simp only[renOk,Bool.and_eq_true,Bool.not_eq_true']at ho
  obtain⟨⟨h1,h2⟩,h3⟩:=ho
  by_cases e:a=s
  ·subst e
   simp only[Ren.get,Site.eq_refl,cond_true,Option.some.injEq]at h
   subst h
   simp[Ren.inv,Site.eq_refl]
  ·simp only[Ren.get,Site.eq_ne e,cond_false]at h
   have ih:=get_inv h3 h
   have hne:c≠s':=by
    rintro rfl
    rw[sndIn_inv h2]at ih
    cases ih
   simp only[Ren.inv,Site.eq_ne hne,cond_false]
   exact ih
theorem inv_get:∀ {ρ:Ren},renOk ρ=true→∀ {s s':Site},ρ.inv s'=some s→ρ.get s=some s'
 | [],_,_,_,h=>by cases h
 |(a,c)::r,ho,s,s',h=>by
  simp only[renOk,Bool.and_eq_true,Bool.not_eq_true']at ho
  obtain⟨⟨h1,h2⟩,h3⟩:=ho
  by_cases e:c=s'
  ·subst e
   simp only[Ren.inv,Site.eq_refl,cond_true,Option.some.injEq]at h
   subst h
   simp[Ren.get,Site.eq_refl]
  ·simp only[Ren.inv,Site.eq_ne e,cond_false]at h
   have ih:=inv_get h3 h
   have hne:a≠s:=by
    rintro rfl
    rw[fstIn_get h1]at ih
    cases ih
   simp only[Ren.get,Site.eq_ne hne,cond_false]
   exact ih
theorem Rs_top {Φ:Phi} {m:LMap} :∀ {vs:List AV} {xs:List Value},vs.length=xs.length→Rs Φ m (vs.map fun _=> .top) xs:=fun {vs xs} h=>
 Rs.mk' (by simpa using h) fun j v x hv hx=>by
  rw[List.getElem?_map]at hv
  cases hvs:vs[j]? with
  |none=>rw[hvs]at hv;cases hv
  |some u=>rw[hvs]at hv;cases hv;exact .top
mutual
theorem renV_ok (hρ:∀s s',ρ.get s=some s'→m' s'=m s):∀ {n:Nat} {v:AV} {x:Value},R Φ m v x→R Φ m' (renV ρ n v) x
 | 0,_,_,_=> .top
 |n+1,v,x,h=>by
  unfold renV
  cases hh:AV.hasRef v with
  |false=>exact h.noref hh (fun _ _ _ h=>h)
  |true=>
   simp only[cond_true]
   split
   ·obtain⟨xs,rfl,hrs⟩:=h.agg_inv
    exact .aggs (renVs_ok hρ hrs)
   ·obtain⟨xs,rfl,hrs⟩:=h.tuple_inv
    exact .tuples (renVs_ok hρ hrs)
   ·cases h with
    |iface h=>exact .iface (renV_ok hρ h)
   ·obtain⟨xs,ys,rfl,h1,h2⟩:=h.func_inv
    exact .funcs (renVs_ok hρ h1) (renVs_ok hρ h2)
   ·split
    ·rename_i s' hs
     cases h with
     |ref hm=>exact .ref (by rw[hρ _ _ hs];exact hm)
    ·exact .top
   ·split
    ·rename_i s' hs
     cases h with
     |sref0=>exact .sref0
     |sref hm h1 h2 h3=>exact .sref (by rw[hρ _ _ hs];exact hm) h1 h2 h3
    ·exact .top
   ·cases h with
    |nils=>exact .nils
   ·exact .top
theorem renVs_ok (hρ:∀s s',ρ.get s=some s'→m' s'=m s):∀ {n:Nat} {vs:List AV} {xs:List Value},Rs Φ m vs xs→Rs Φ m' (renVs ρ n vs) xs
 | 0,_,_,h=>by unfold renVs;exact Rs_top h.1
 |n+1,[],xs,h=>by rw[h.inv_nil];unfold renVs;exact .nil
 |n+1,v::r,xs,h=>by
  obtain⟨x,ys,rfl,hx,hys⟩:=h.inv_cons
  unfold renVs
  exact .cons (renV_ok hρ hx) (renVs_ok hρ hys)
end
theorem ren_cells (hρ:∀s s',ρ.get s=some s'→m' s'=m s) {n:Nat} {v:AV} {xs:List Value} (h:Rs Φ m v.cells xs):Rs Φ m' (renV ρ (n+1) v).cells xs:=by
 by_cases hag:∃cs,v= .agg cs
 ·obtain⟨cs,rfl⟩:=hag
  unfold renV
  cases hh:AV.hasRef (.agg cs)with
  |false=>
   simp only[cond_false]
   exact Rs.mk' h.1 fun j v x hv hx=>(h.at hv hx).noref (hasRef_cells hh hv) (fun _ _ _ h=>h)
  |true=>exact renVs_ok hρ h
 ·have hcl:v.cells=[v]:=by cases v<;>first|rfl|exact absurd ⟨_,rfl⟩ hag
  have hcl':(renV ρ (n+1) v).cells=[renV ρ (n+1) v]:=by
   unfold renV
   cases hh:AV.hasRef v with
   |false=>exact hcl
   |true=>
    simp only[cond_true]
    split<;>first
     |rfl
     |exact absurd ⟨_,rfl⟩ hag
     |(split<;>rfl)
  rw[hcl]at h
  rw[hcl']
  obtain⟨x,ys,rfl,hx,hys⟩:=h.inv_cons
  rw[hys.inv_nil]
  exact .cons (renV_ok hρ hx) .nil
theorem ren_blk (hρ:∀s s',ρ.get s=some s'→m' s'=m s) {s s':Site} {B:Blk} (hm:m' s'=m s) (h:BlkOk Φ m w s B):BlkOk Φ m' w s' (renB ρ B):=by
 cases B with
 |box v wr=>
  obtain⟨b,e,h⟩:=h
  obtain⟨xs,h1,h2⟩:=h.lies.list
  have h3:=ren_cells (n:=39) hρ h1
  have hlen:(renV ρ deep v).cells.length=v.cells.length:=by rw[show deep=39+1 from rfl,h3.1,h1.1]
  refine⟨b,e,⟨by rw[hm,h.loc,hlen],by rw[hlen];exact h.shape,fun j c hc=> ?_,by rw[hlen];exact h.nf,h.phi⟩⟩
  obtain⟨x,hx,hr⟩:=h3.2 j c hc
  exact⟨x,by have:=h2 j x hx;rw[Nat.zero_add]at this;exact this,hr⟩
 |row e xs wr rm=>
  rcases h with⟨h1,h2,h3⟩|⟨b,size,h⟩
  ·exact .inl ⟨hm.trans h1,h2,h3⟩
  ·exact .inr ⟨b,size,⟨hm.trans h.loc,h.pos,h.len,h.shape,h.each,h.cell,h.nf,h.phi,h.room,h.one⟩⟩
 |gone=>trivial
theorem headHeap_get {ρ₀:Ren} :∀ {ρ:Ren},renOk ρ=true→∀(s':Site),hget (headHeap H ρ₀ ρ) s'=((ρ.inv s').bind (hget H)).map (renB ρ₀)
 | [],_,_=>rfl
 |(a,c)::r,ho,s'=>by
  simp only[renOk,Bool.and_eq_true,Bool.not_eq_true']at ho
  obtain⟨⟨h1,h2⟩,h3⟩:=ho
  have ih:=headHeap_get (ρ₀:=ρ₀) h3 s'
  unfold headHeap
  by_cases e:c=s'
  ·subst e
   simp only[Ren.inv,Site.eq_refl,cond_true,Option.bind_some]
   split
   ·rename_i b hb
    rw[hget_cons_same,hb];rfl
   ·rename_i hb
    rw[ih,sndIn_inv h2,hb];rfl
  ·simp only[Ren.inv,Site.eq_ne e,cond_false]
   split
   ·rw[hget_cons_ne _ _ e];exact ih
   ·exact ih
theorem renB_live {B:Blk} :(renB ρ B).live↔B.live:=by cases B<;>exact Iff.rfl
theorem renMap_get (ho:renOk ρ=true):∀s s',ρ.get s=some s'→renMap m ρ s'=m s:=fun s s' h=>by
 unfold renMap
 rw[get_inv ho h]
theorem Inv.ren (hI:Inv Φ m w H) (ho:renOk ρ=true):Inv Φ (renMap m ρ) w (headHeap H ρ ρ):=by
 have hmap:∀ {s' b e z},renMap m ρ s'= .at b e z→∃s,ρ.inv s'=some s∧m s= .at b e z:=fun {s' b e z} h=>by
  unfold renMap at h
  split at h
  ·rename_i a ha;exact⟨a,ha,h⟩
  ·cases h
 refine⟨hI.phi,fun s' B hB=> ?_,fun s' hs=> ?_,fun s1 s2 B1 B2 b e z e' z' h1 h2 l1 l2 hm1 hm2=> ?_,fun s' b e z h=> ?_⟩
 ·rw[headHeap_get ho]at hB
  cases hi:ρ.inv s' with
  |none=>rw[hi]at hB;cases hB
  |some a=>
   rw[hi,Option.bind_some]at hB
   cases ha:hget H a with
   |none=>rw[ha]at hB;cases hB
   |some b=>
    rw[ha]at hB
    cases hB
    exact ren_blk (renMap_get ho) (by unfold renMap;rw[hi]) (hI.blk a b ha)
 ·rw[headHeap_get ho]at hs
  unfold renMap
  split
  ·rename_i a ha
   rw[ha,Option.bind_some]at hs
   exact hI.map a (by cases hh:hget H a with|none=>rfl|some b=>rw[hh]at hs;cases hs)
  ·rfl
 ·rw[headHeap_get ho]at h1 h2
  obtain⟨a1,i1,g1⟩:=hmap hm1
  obtain⟨a2,i2,g2⟩:=hmap hm2
  rw[i1,Option.bind_some]at h1
  rw[i2,Option.bind_some]at h2
  cases k1:hget H a1 with
  |none=>rw[k1]at h1;cases h1
  |some b1=>
   cases k2:hget H a2 with
   |none=>rw[k2]at h2;cases h2
   |some b2=>
    rw[k1]at h1
    rw[k2]at h2
    cases h1
    cases h2
    have:=hI.inj _ _ _ _ _ _ _ _ _ k1 k2 (renB_live.1 l1) (renB_live.1 l2) g1 g2
    subst this
    have e1:=inv_get ho i1
    rw[inv_get ho i2]at e1
    cases e1
    rfl
 ·obtain⟨a,_,g⟩:=hmap h
  exact hI.lt _ _ _ _ g
theorem Glob.ren (hG:Glob Φg Φ₀ i₀ w₀ Φ m w) (hinc:∀i b e z,i₀ (.inc i)= .at b e z→ρ.inv (.inc i)=some (.inc i)):Glob Φg Φ₀ i₀ w₀ Φ (renMap m ρ) w:=by
 refine⟨hG.phi,hG.phiNew,fun i b e z h=> ?_,fun s b e z h=> ?_,hG.same,hG.size,hG.os,hG.out,hG.tape,hG.base⟩
 ·unfold renMap
  rw[hinc i b e z h]
  exact hG.inc i b e z h
 ·unfold renMap at h
  split at h
  ·exact hG.own _ _ _ _ h
  ·cases h
theorem Inv.nil {s:Site} (hI:Inv Φ m w H) (hs:m s= .none) {rm wr:Bool} {e:Nat} :Inv Φ m w ((s,.row e [] wr rm)::H):=by
 refine⟨hI.phi,fun x B hB=> ?_,fun x hx=> ?_,fun s1 s2 B1 B2 b e z e' z' h1 h2 l1 l2 hm1 hm2=> ?_,hI.lt⟩
 ·by_cases e:s=x
  ·subst e
   rw[hget_cons_same]at hB
   cases hB
   exact .inl ⟨hs,rfl,rfl⟩
  ·rw[hget_cons_ne _ _ e]at hB
   exact hI.blk x B hB
 ·by_cases e:s=x
  ·subst e;exact hs
  ·rw[hget_cons_ne _ _ e]at hx;exact hI.map x hx
 ·have e1:s≠s1:=by rintro rfl;rw[hs]at hm1;cases hm1
  have e2:s≠s2:=by rintro rfl;rw[hs]at hm2;cases hm2
  rw[hget_cons_ne _ _ e1]at h1
  rw[hget_cons_ne _ _ e2]at h2
  exact hI.inj _ _ _ _ _ _ _ _ _ h1 h2 l1 l2 hm1 hm2
theorem headT_ok {s:St} (hI:Inv Φ m w s.H) {tmps:Array Value} (hT:RT Φ m s.T tmps):∀ {live:List (Nat×Nat)} {L L':List Site} {T:Temps},headT s live L=some (T,L')→
  (∀x∈L,x∈L')∧∀ {L'':List Site},(∀x∈L',x∈L'')→RT (frzPhi Φ m w s.H L'') m T tmps
 | [],L,L',T,h=>by
  simp only[headT,Option.some.injEq,Prod.mk.injEq]at h
  obtain⟨rfl,rfl⟩:=h
  exact⟨fun _ h=>h,fun _ t v h=>by cases h⟩
 |(t,fz)::r,L,L',T,h=>by
  unfold headT at h
  split at h
  ·rename_i v hv
   obtain⟨x,hx,hr⟩:=hT t v hv
   cases hfz:Nat.beq fz 1 with
   |true=>
    rw[hfz]at h
    simp only[cond_true]at h
    split at h
    ·rename_i v' L1 hc
     split at h
     ·rename_i T1 L2 hh
      cases h
      obtain⟨c1,c2⟩:=closeV_ok hI hc hr
      obtain⟨h1,h2⟩:=headT_ok hI hT hh
      refine⟨fun y hy=>h1 y (c1 y hy),fun hL t' v'' hv'=> ?_⟩
      simp only[tget]at hv'
      cases hb:Nat.beq t t' with
      |true=>
       rw[hb]at hv'
       cases hv'
       rw[Nat.beq_eq]at hb
       subst hb
       exact⟨x,hx,c2 (fun h=>by cases h) fun y hy=>hL y (h1 y hy)⟩
      |false=>rw[hb]at hv';exact h2 hL t' v'' hv'
     ·cases h
    ·cases h
   |false=>
    rw[hfz]at h
    simp only[cond_false]at h
    split at h
    ·rename_i T1 L2 hh
     cases h
     obtain⟨h1,h2⟩:=headT_ok hI hT hh
     refine⟨h1,fun hL t' v'' hv'=> ?_⟩
     simp only[tget]at hv'
     cases hb:Nat.beq t t' with
     |true=>
      rw[hb]at hv'
      cases hv'
      rw[Nat.beq_eq]at hb
      subst hb
      exact⟨x,hx,hr.mono (frzPhi_ext hI)⟩
     |false=>rw[hb]at hv';exact h2 hL t' v'' hv'
    ·cases h
  ·cases h
theorem headRenT_ok (hρ:∀s s',ρ.get s=some s'→m' s'=m s) {tmps:Array Value} :∀ {T:Temps},RT Φ m T tmps→RT Φ m' (headRenT ρ T) tmps:=by
 have key:∀ {T:Temps} {t:Nat} {v':AV},tget (headRenT ρ T) t=some v'→∃t' v,tget T t=some v∧v'=(match v with| .nils=> .sref (.head t' 0) 0 0 |v=>renV ρ deep v):=by
  intro T
  induction T with
  |nil=>intro t v' h;cases h
  |cons p r ih=>
   obtain⟨a,v⟩:=p
   intro t v' h
   simp only[headRenT,tget]at h ⊢
   cases hb:Nat.beq a t with
   |true=>rw[hb]at h;cases h;exact⟨a,v,rfl,rfl⟩
   |false=>rw[hb]at h;exact ih h
 intro T hT t v' h
 obtain⟨t',v,h1,rfl⟩:=key h
 obtain⟨x,hx,hr⟩:=hT t v h1
 refine⟨x,hx, ?_⟩
 split
 ·cases hr with
  |nils=>exact .sref0
 ·exact renV_ok hρ hr
theorem nilHeap_ok (live:List (Nat×Nat)) (T:Temps) (hI:Inv Φ m w H):(∀s B,(s,B)∈nilHeap live T→m s= .none)→Inv Φ m w (nilHeap live T++H):=by
 induction T with
 |nil=>intro _;exact hI
 |cons p r ih=>
  obtain⟨t,v⟩:=p
  intro h
  unfold nilHeap at h ⊢
  split at h
  ·exact Inv.nil (ih fun s B hs=>h s B (List.mem_cons_of_mem _ hs)) (h _ _ (List.mem_cons_self ..))
  ·exact ih h
theorem nilOk_ok:∀ {N:Heap},nilOk ρ N=true→∀s B,(s,B)∈N→ρ.inv s=none
 | [],_,_,_,h=>by cases h
 |(a,b)::r,ho,s,B,h=>by
  simp only[nilOk,Bool.and_eq_true,Bool.not_eq_true']at ho
  rcases List.mem_cons.1 h with e|h
  ·cases e;exact sndIn_inv ho.1
  ·exact nilOk_ok ho.2 s B h
theorem headNames_get {t:Nat} :∀ {l:List Site} {i:Nat} {j:Nat},Site.inc j∈l→(headNames t l i).get (.inc j)=some (.inc j)
 | [],_,_,h=>by cases h
 |p::r,i,j,h=>by
  unfold headNames
  by_cases e:p= .inc j
  ·subst e;simp[Ren.get,Site.eq_refl]
  ·have hm:Site.inc j∈r:=by rcases List.mem_cons.1 h with e'|h;exact absurd e'.symm e;exact h
   cases p with
   |inc k=>simp only[Ren.get,Site.eq_ne e,cond_false];exact headNames_get hm
   |_=>simp only[Ren.get,Site.eq_ne e,cond_false];exact headNames_get hm
theorem get_append:∀ {ρ ρ':Ren} {s s':Site},ρ.get s=some s'→(ρ++ρ':Ren).get s=some s'
 |(a,c)::r,ρ',s,s',h=>by
  simp only[List.cons_append,Ren.get]at h ⊢
  cases hb:Site.eq a s with
  |true=>rw[hb]at h;exact h
  |false=>rw[hb]at h;exact get_append h
 | [],_,_,_,h=>by cases h
theorem mem_incSites:∀ {H:Heap} {i:Nat} {B:Blk},hget H (.inc i)=some B→Site.inc i∈incSites H
 | [],_,_,h=>by cases h
 |(a,b)::r,i,B,h=>by
  by_cases e:a= .inc i
  ·subst e;exact List.mem_cons_self ..
  ·rw[hget_cons_ne _ _ e]at h
   have:=mem_incSites h
   unfold incSites
   split
   ·rename_i heq;cases heq
   ·rename_i heq;cases heq;exact List.mem_cons_of_mem _ this
   ·rename_i heq;cases heq;exact this
theorem Site.lt_ne {c a:Site} (h:Site.lt c a=true):c≠a:=by
 rintro rfl
 cases c<;>simp[Site.lt]at h
theorem hget_insH {a:Site} {b:Blk} :∀ {H:Heap} {s:Site},hget (insH a b H) s=hget ((a,b)::H) s
 | [],s=>rfl
 |(c,d)::r,s=>by
  unfold insH
  cases hc:Site.lt c a with
  |false=>rfl
  |true=>
   simp only[cond_true]
   have hne:=Site.lt_ne hc
   have ih:=hget_insH (a:=a) (b:=b) (H:=r) (s:=s)
   by_cases e:c=s
   ·subst e
    rw[hget_cons_ne _ _ (Ne.symm hne)]
    simp[hget,Site.eq_refl]
   ·rw[hget_cons_ne _ _ e,ih]
    by_cases e2:a=s
    ·subst e2;simp[hget,Site.eq_refl]
    ·rw[hget_cons_ne _ _ e2,hget_cons_ne _ _ e2,hget_cons_ne _ _ e]
theorem hget_sortH:∀ {H:Heap} {s:Site},hget (sortH H) s=hget H s
 | [],s=>rfl
 |(a,b)::r,s=>by
  unfold sortH
  rw[hget_insH]
  have ih:=hget_sortH (H:=r) (s:=s)
  by_cases e:a=s
  ·subst e;simp[hget,Site.eq_refl]
  ·rw[hget_cons_ne _ _ e,hget_cons_ne _ _ e,ih]
theorem Inv.alike {H H':Heap} (hI:Inv Φ m w H) (h:∀s,hget H' s=hget H s):Inv Φ m w H':=
 ⟨hI.phi,fun s B hs=>hI.blk s B (h s▸hs),fun s hs=>hI.map s (h s▸hs),fun s s' B B' b e z e' z' h1 h2=>hI.inj s s' B B' b e z e' z' (h s▸h1) (h s'▸h2),hI.lt⟩
theorem boxNil_ok {s:Site} {t off esz:Nat} (hI:Inv Φ m w H):Inv Φ m w (boxNil s t off esz H):=by
 unfold boxNil
 split
 ·rename_i cs wr hg
  split
  ·rename_i hc
   split
   ·rename_i hn
    refine Inv.nil ?_ (hI.map _ hn)
    have hne:Site.told (1000000+t) off≠s:=by rintro rfl;rw[hn]at hg;cases hg
    have key:∀ {s' C},hget (hset H s (.box (.agg (cs.set off (.sref (.told (1000000+t) off) 0 0))) wr)) s'=some C→s'=s∧C= .box (.agg (cs.set off (.sref (.told (1000000+t) off) 0 0))) wr∨s'≠s∧hget H s'=some C:=fun {s' C} hC=>by
     by_cases h:s=s'
     ·subst h;rw[hget_hset_same hg]at hC;cases hC;exact .inl ⟨rfl,rfl⟩
     ·rw[hget_hset_ne h]at hC;exact .inr ⟨Ne.symm h,hC⟩
    refine⟨hI.phi,fun s' B hB=> ?_,fun s' hs=> ?_,fun s1 s2 B B' b e z e' z' h1 h2 l1 l2=> ?_,hI.lt⟩
    ·rcases key hB with⟨rfl,rfl⟩|⟨_,hB⟩
     ·obtain⟨b,e,h⟩:=hI.blk _ _ hg
      obtain⟨xs,h1,h2⟩:=h.lies.list
      refine⟨b,e,⟨?_, ?_,fun j c hc'=> ?_, ?_,h.phi⟩⟩
      ·have:=h.loc;simpa[AV.cells]using this
      ·have:=h.shape;simpa[AV.cells]using this
      ·have hc2:(cs.set off (.sref (.told (1000000+t) off) 0 0))[j]? =some c:=hc'
       by_cases ej:off=j
       ·subst ej
        have hlt:off<cs.length:=(List.getElem?_eq_some_iff.1 hc).1
        rw[List.getElem?_set_self hlt]at hc2
        cases hc2
        obtain⟨x,hx,hr⟩:=h1.2 off _ hc
        refine⟨x,by have:=h2 off x hx;rw[Nat.zero_add]at this;exact this, ?_⟩
        cases hr with
        |nils=>exact .sref0
       ·rw[List.getElem?_set_ne ej]at hc2
        obtain⟨x,hx,hr⟩:=h1.2 j c hc2
        exact⟨x,by have:=h2 j x hx;rw[Nat.zero_add]at this;exact this,hr⟩
      ·have:=h.nf;simpa[AV.cells]using this
     ·exact hI.blk _ _ hB
    ·by_cases h:s=s'
     ·subst h;rw[hget_hset_same hg]at hs;cases hs
     ·rw[hget_hset_ne h]at hs;exact hI.map _ hs
    ·have old:∀ {s' C},hget (hset H s (.box (.agg (cs.set off (.sref (.told (1000000+t) off) 0 0))) wr)) s'=some C→C.live→∃C',hget H s'=some C'∧C'.live:=fun {s' C} hC hl=>by
      rcases key hC with⟨rfl,rfl⟩|⟨_,hC⟩
      ·exact⟨_,hg,hl⟩
      ·exact⟨_,hC,hl⟩
     obtain⟨C1,g1,k1⟩:=old h1 l1
     obtain⟨C2,g2,k2⟩:=old h2 l2
     exact hI.inj s1 s2 C1 C2 b e z e' z' g1 g2 k1 k2
   ·exact hI
  ·exact hI
 ·exact hI
theorem boxNilC_ok {s:Site} {t:Nat} :∀ {n c:Nat} {H:Heap},Inv Φ m w H→Inv Φ m w (boxNilC s t n c H)
 | 0,_,_,h=>h
 |n+1,c,H,h=>by
  unfold boxNilC
  cases Nat.beq c 0 with
  |true=>exact h
  |false=>exact boxNilC_ok (boxNil_ok h)
theorem boxNils_ok {T:Temps} :∀ {live:List (Nat×Nat)} {H:Heap},Inv Φ m w H→Inv Φ m w (boxNils T live H)
 | [],_,h=>h
 |(t,c)::r,H,h=>by
  unfold boxNils
  cases Nat.blt c 1000 with
  |true=>exact boxNils_ok h
  |false=>
   simp only[cond_false]
   split
   ·exact boxNils_ok (boxNilC_ok h)
   ·exact boxNils_ok h
theorem head0_ok {live:List (Nat×Nat)} {s s':St} {tmps:Array Value} (h:head0 live s=some s') (hT:RT Φ m s.T tmps) (hI:Inv Φ m w s.H) (hG:Glob Φg Φ₀ i₀ w₀ Φ m w):
  ∃Φ' m',RT Φ' m' s'.T tmps∧Inv Φ' m' w s'.H∧Glob Φg Φ₀ i₀ w₀ Φ' m' w:=by
 unfold head0 at h
 split at h
 ·rename_i T L hh
  obtain⟨_,h1⟩:=headT_ok hI hT hh
  have hT1:=h1 (L'':=L) fun _ h=>h
  have hI1:=hI.frz L
  have hG1:=hG.frz L hI
  dsimp only at h
  generalize hρ:headNames 0 (incSites s.H) 0++headRen (fxApp s.H (frzAll L)) T (incSites s.H)=ρ at h
  cases ho:renOk ρ with
  |false=>rw[ho]at h;cases h
  |true=>
   cases hn:nilOk ρ (nilHeap live T)with
   |false=>rw[ho,hn]at h;cases h
   |true=>
    rw[ho,hn]at h
    simp only[Bool.and_self,cond_true,Option.some.injEq]at h
    subst h
    refine⟨frzPhi Φ m w s.H L,renMap m ρ,headRenT_ok (renMap_get ho) hT1,(nilHeap_ok live T (hI1.ren ho) fun s B hs=> ?_).alike fun _=>hget_sortH,hG1.ren fun i b e z hi=> ?_⟩
    ·unfold renMap;rw[nilOk_ok hn s B hs]
    ·have hm:=hG.inc i b e z hi
     cases hg:hget s.H (.inc i)with
     |none=>rw[hI.map _ hg]at hm;cases hm
     |some B=>
      refine get_inv ho ?_
      rw[←hρ]
      exact get_append (headNames_get (mem_incSites hg))
 ·cases h
theorem head_ok {live:List (Nat×Nat)} {s s':St} {tmps:Array Value} (h:head live s=some s') (hT:RT Φ m s.T tmps) (hI:Inv Φ m w s.H) (hG:Glob Φg Φ₀ i₀ w₀ Φ m w):
  ∃Φ' m',RT Φ' m' s'.T tmps∧Inv Φ' m' w s'.H∧Glob Φg Φ₀ i₀ w₀ Φ' m' w:=by
 obtain⟨T,H⟩:=s
 exact head0_ok (s:=⟨T,boxNils T live H⟩) h hT (boxNils_ok hI) hG
end
end Go.Ab
namespace Go.Ab
open Go
def CallsV (P:Program) (f:FuncId) (xs:Array Value) (w:World) (R:Value→World→Prop):Prop:=
 match(callFunc f xs).run P w with
 | .ok (.value v) w'=>R v w'
 | .ok (.enter g ys) w'=>Calls P g ys w' fun
  | .returned v,w''=>R v w''
  |_,_=>False
 |_=>False
theorem CallsV.mono {P:Program} {f:FuncId} {xs:Array Value} {w:World} {R R':Value→World→Prop} (h:CallsV P f xs w R) (hR:∀v w',R v w'→R' v w'):CallsV P f xs w R':=by
 unfold CallsV at*
 split
 ·rename_i hr;rw[hr]at h;exact hR _ _ h
 ·rename_i hr
  rw[hr]at h
  exact Calls.mono h fun e w' he=>by cases e<;>first|exact hR _ _ he|exact he
 ·rename_i h1 h2
  split at h
  ·rename_i hr;exact absurd hr (h1 _ _)
  ·rename_i hr;exact absurd hr (h2 _ _ _)
  ·exact h
def outH:Nat→List Blk→Heap
 |_,[] => []
 |i,b::r=>(.out i,b)::outH (i+1) r
section
variable {Φg Φ:Phi} {m:LMap} {w:World} {H:Heap}
theorem argsT_get:∀(args:List AV) (i t:Nat),tget (argsT i args) t=if i≤t then args[t-i]? else none
 | [],i,t=>by simp[argsT,tget]
 |v::r,i,t=>by
  simp only[argsT,tget]
  cases hb:Nat.beq i t with
  |true=>
   rw[Nat.beq_eq]at hb
   subst hb
   simp
  |false=>
   have hne:i≠t:=fun e=>by rw[e]at hb;simp at hb
   simp only[cond_false]
   rw[argsT_get r (i+1) t]
   by_cases h:i≤t
   ·rw[if_pos (by omega),if_pos h,show t-i=(t-(i+1))+1 by omega,List.getElem?_cons_succ]
   ·rw[if_neg (by omega),if_neg h]
theorem incH_get:∀(inc:List Blk) (i:Nat) (s:Site),hget (incH i inc) s=match s with| .inc j=>if i≤j then inc[j-i]? else none|_=>none
 | [],i,s=>by cases s<;>simp[incH,hget]
 |b::r,i,s=>by
  simp only[incH]
  by_cases e:Site.inc i=s
  ·subst e;rw[hget_cons_same];simp
  ·rw[hget_cons_ne _ _ e,incH_get r (i+1) s]
   cases s with
   |inc j=>
    have hne:i≠j:=fun h=>e (by rw[h])
    dsimp only
    by_cases h:i≤j
    ·rw[if_pos (by omega),if_pos h,show j-i=(j-(i+1))+1 by omega,List.getElem?_cons_succ]
    ·rw[if_neg (by omega),if_neg h]
   |_=>rfl
theorem outH_get:∀(out:List Blk) (i:Nat) (s:Site),hget (outH i out) s=match s with| .out j=>if i≤j then out[j-i]? else none|_=>none
 | [],i,s=>by cases s<;>simp[outH,hget]
 |b::r,i,s=>by
  simp only[outH]
  by_cases e:Site.out i=s
  ·subst e;rw[hget_cons_same];simp
  ·rw[hget_cons_ne _ _ e,outH_get r (i+1) s]
   cases s with
   |out j=>
    have hne:i≠j:=fun h=>e (by rw[h])
    dsimp only
    by_cases h:i≤j
    ·rw[if_pos (by omega),if_pos h,show j-i=(j-(i+1))+1 by omega,List.getElem?_cons_succ]
    ·rw[if_neg (by omega),if_neg h]
   |_=>rfl
theorem hget_append:∀(H H':Heap) (s:Site),hget (H++H') s=match hget H s with|some b=>some b|none=>hget H' s
 | [],_,_=>rfl
 |(a,b)::r,H',s=>by
  simp only[List.cons_append,hget]
  cases Site.eq a s with
  |true=>rfl
  |false=>exact hget_append r H' s
theorem Inv.congr {H':Heap} (hI:Inv Φ m w H) (h:∀s,hget H' s=hget H s):Inv Φ m w H':=
 ⟨hI.phi,fun s B hB=>hI.blk s B (h s▸hB),fun s hs=>hI.map s (h s▸hs),fun s s' B B' b e z e' z' h1 h2=>hI.inj s s' B B' b e z e' z' (h s▸h1) (h s'▸h2),hI.lt⟩
end
def SoundCall (P:Program) (Φg:Phi) (f:FuncId) (args:List AV) (inc:List Blk) (r:Res):Prop:=
 ∀(Φ:Phi) (m:LMap) (w:World) (xs:Array Value),(∀b o x,Φg b o=some x→Φ b o=some x)→Rs Φ m args xs.toList→Inv Φ m w (incH 0 inc)→
  CallsV P f xs w fun x w'=>∃Φ' m',R Φ' m' r.v x∧Inv Φ' m' w' (incH 0 r.back++outH 0 r.out)∧Glob Φg Φ m w Φ' m' w'
def IsMeth (P:Program) (t:TypeId) (name:String) (f:FuncId) (fld:Bool):Prop:=
 match fld with
 |false=>∀(w:World) (v:Value),(method (P.types.size+Made.depth) t v name).run P w= .ok (f,v) w
 |true=>∀(w:World) (v:Value),(method (P.types.size+Made.depth) t (.agg #[v]) name).run P w= .ok (f,v) w
def Asserts (P:Program) (t u:TypeId) (b:Bool):Prop:=
 ∃ms i,P.underlying u=some (.interface ms)∧P.info? t=some i∧(b=true↔Instr.missingMethod ms i.methods=none)
structure CtxOk (P:Program) (Φg:Phi) (X:Ctx):Prop where
 tab:TabOK P X.cfg.tab
 call:∀f args inc r,X.call f args inc r→SoundCall P Φg f args inc r
 meth:∀t name f b,X.meth t name f b→IsMeth P t name f b
 ta:∀t u b,X.ta t u b→Asserts P t u b
 mixed:P.follows .mixedOrders=true
 glob:∀g v,X.cfg.glob g=some v→R Φg m0 (.cptr v) (.pointer (some ⟨g,0,none⟩))
end Go.Ab
