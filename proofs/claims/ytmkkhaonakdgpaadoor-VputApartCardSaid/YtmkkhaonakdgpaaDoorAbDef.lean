/- The abstract runner: what a Go function's loaded code comes to on values without memory. Definitions only. -/
import GoSem.Step
namespace Go.Ab
open Go

/-- Names of blocks: made at a temporary; come in; handed out; told by a call at a temporary; living at a loop's head. -/
inductive Site where
  | tmp (t : Nat)
  | inc (i : Nat)
  | out (i : Nat)
  | told (t i : Nat)
  | head (t i : Nat)
  deriving DecidableEq, Inhabited
def Site.eq : Site → Site → Bool
  | .tmp a, .tmp b => Nat.beq a b
  | .inc a, .inc b => Nat.beq a b
  | .out a, .out b => Nat.beq a b
  | .told a i, .told b j => Nat.beq a b && Nat.beq i j
  | .head a i, .head b j => Nat.beq a b && Nat.beq i j
  | _, _ => false
def Site.isInc : Site → Bool
  | .inc _ => true
  | _ => false

/-- Abstract values. 'tree': a slice whose elements never change any more; 'cptr': a pointer to what never changes any more; 'ref', 'sref': a pointer, a slice into a block (element, cell; first, length). 'raw': the machine's own value, of one cell. -/
inductive AV where
  | bool (b : Bool)
  | int (k : IntKind) (n : Int)
  | str (s : List UInt8)
  | nilp | nils | nilf | nili
  | iface (t : TypeId) (v : AV)
  | func (f : FuncId) (first cap : List AV)
  | agg (cs : List AV)
  | tuple (vs : List AV)
  | tree (xs : List AV)
  | cptr (v : AV)
  | ref (s : Site) (i o : Nat)
  | sref (s : Site) (lo len : Nat)
  | top
  | raw (x : Value)
  deriving Inhabited

inductive Blk where
  | box (v : AV) (wr : Bool)
  | row (esz : Nat) (xs : List AV) (wr room : Bool)
  | gone
  deriving Inhabited

abbrev Heap := List (Site × Blk)
abbrev Temps := List (Nat × AV)
structure St where
  T : Temps
  H : Heap

inductive Ex where
  | normal | exit (id : Nat) | ret

/-- What a call comes to: the result; what came in, behind the call; new blocks that are handed out. -/
structure Res where
  v : AV
  back : List Blk
  out : List Blk

inductive DT (α : Type) where
  | ret (a : α)
  | fail (why : Nat)
  | node (c : Bool) (a b : DT α)
  | amb (a b : DT α)
  | elem (xs : List AV) (i : Nat) (k : AV → DT α)
  | byte (s : List UInt8) (i : Nat) (k : UInt8 → DT α)
  | bytes (xs : List AV) (k : List UInt8 → DT α)
  | fin (i : Int) (n : Nat) (k : Nat → DT α)
  | esz (xs : List AV) (e : Nat) (k : DT α)
  | call (f : FuncId) (args : List AV) (inc : List Blk) (k : Res → DT α)
  | meth (t : TypeId) (name : String) (k : FuncId → Bool → DT α)
  | ta (t asserted : TypeId) (k : Bool → DT α)
  | loop (body : Code) (live : List (Nat × Nat)) (s : St) (k : Ex → St → DT α)

inductive Sh where
  | struct | array (n : Nat) (e : TypeId) | slice (e : TypeId) | int (k : IntKind) | bool | string | pointer (e : TypeId) | iface | other
  deriving DecidableEq, Inhabited
/-- Of a type: its cells, is it of several, its make, its fields (offset, type), its zero value, its bytes, may it be compared. -/
structure TI where
  sz : Nat
  agg : Bool
  desc : Sh
  fields : List (Nat × TypeId)
  zero : Option AV
  bytes : Nat
  cmp : Bool
  deriving Inhabited

abbrev Tab := List (Nat × TI)
def Tab.get : Tab → Nat → Option TI
  | [], _ => none
  | (a, x) :: r, t => bif Nat.beq a t then some x else Tab.get r t

/-- In which order a region that draws its order is run: so that it serves every order. 'sil': leaves memory alone; 'eff': does not; 'alt': either may come first. -/
inductive Plan where
  | stop | sil (i : Nat) (r : Plan) | eff (i : Nat) (r : Plan) | alt (p q : Plan)

/-- What the runner goes by: the types; for each loop (by its body's first region) what lives at its head (0: as it is; 1: as a tree; n + 2: as it is, if nil an empty row of elements of n cells); for each function: may it be handed blocks, does it hand out blocks; what package-level variables hold. -/
structure Cfg where
  tab : Tab
  live : FuncId → Nat → List (Nat × Nat)
  opens : FuncId → Bool
  fresh : FuncId → Bool
  nilsz : FuncId → Nat
  plan : FuncId → Nat → Plan
  glob : Nat → Option AV

def tget : Temps → Nat → Option AV
  | [], _ => none
  | (a, v) :: r, t => bif Nat.beq a t then some v else tget r t

def hget : Heap → Site → Option Blk
  | [], _ => none
  | (a, b) :: r, s => bif Site.eq a s then some b else hget r s

def AV.cells : AV → List AV
  | .agg cs => cs
  | v => [v]

def ofLit : Value → Option AV
  | .bool b => some (.bool b)
  | .int k n => some (.int k n)
  | .string s => some (.str s.data.toList)
  | .pointer none => some .nilp
  | .slice none 0 0 => some .nils
  | .nilFunc => some .nilf
  | .nilIface => some .nili
  | _ => none
def ofLits : List Value → Option (List AV)
  | [] => some []
  | v :: r => match ofLit v with
    | some x => match ofLits r with
      | some xs => some (x :: xs)
      | none => none
    | none => none
def ofValue : Value → Option AV
  | .agg cs => match ofLits cs.toList with
    | some l => some (.agg l)
    | none => none
  | v => ofLit v

def opnd (s : St) : Operand → Option AV
  | .tmp t => tget s.T t
  | .const v => ofValue v
  | .func f => some (.func f [] [])
  | .global _ => none
def opnds (s : St) : List Operand → Option (List AV)
  | [] => some []
  | x :: r => match opnd s x with
    | some v => match opnds s r with
      | some vs => some (v :: vs)
      | none => none
    | none => none

mutual
def AV.hasRef : AV → Bool
  | .agg cs => AV.hasRefs cs
  | .tuple cs => AV.hasRefs cs
  | .iface _ v => AV.hasRef v
  | .func _ as cs => AV.hasRefs as || AV.hasRefs cs
  | .ref .. => true
  | .sref .. => true
  | .nils => true
  | .top => true
  | _ => false
def AV.hasRefs : List AV → Bool
  | [] => false
  | v :: r => AV.hasRef v || AV.hasRefs r
end

/-- Is it of numbers, texts, bools, nothing else? -/
def AV.flat1 : AV → Bool
  | .bool _ => true | .int _ _ => true | .str _ => true | .nilp => true | .nili => true | .nilf => true | .raw _ => true
  | .iface _ (.bool _) => true | .iface _ (.int _ _) => true | .iface _ (.str _) => true
  | _ => false
def AV.flats : List AV → Bool
  | [] => true
  | v :: r => v.flat1 && AV.flats r
def AV.flat2 : AV → Bool
  | .agg cs => AV.flats cs
  | .iface _ (.agg cs) => AV.flats cs
  | v => v.flat1
def AV.flat2s : List AV → Bool
  | [] => true
  | v :: r => v.flat2 && AV.flat2s r
def AV.flat : AV → Bool
  | .tuple vs => AV.flat2s vs
  | v => v.flat2

def isOneCell : AV → Bool
  | .agg _ => false
  | .tuple _ => false
  | .top => false
  | _ => true

-- A value by itself: what it has of this frame's own blocks (those that came in: only where 'all'), as trees; which blocks these are. n: how deep.
mutual
def closeV (H : Heap) : Bool → Nat → List Site → AV → Option (AV × List Site)
  | _, 0, _, _ => none
  | all, n + 1, L, v => bif AV.hasRef v then (match v with
    | .agg cs => match closeVs H all n L cs with | some (l, L) => some (.agg l, L) | none => none
    | .tuple cs => match closeVs H all n L cs with | some (l, L) => some (.tuple l, L) | none => none
    | .iface t v => match closeV H all n L v with | some (l, L) => some (.iface t l, L) | none => none
    | .func f as cs => match closeVs H all n L as with
      | some (as', L) => match closeVs H all n L cs with | some (l, L) => some (.func f as' l, L) | none => none
      | none => none
    | .nils => some (.tree [], L)
    | .ref s i o => bif !all && s.isInc then some (.ref s i o, L) else
      match i, o, hget H s with
      | 0, 0, some (.box v _) => bif AV.hasRef v then (match v with
          | .agg cs => match closeVs H true n (s :: L) cs with | some (cs, L) => some (.cptr (.agg cs), L) | none => none
          | v => match closeV H true n (s :: L) v with | some (v', L) => bif isOneCell v' then some (.cptr v', L) else none | none => none)
        else some (.cptr v, s :: L)
      | _, _, _ => none
    | .sref s lo len => bif !all && s.isInc then some (.sref s lo len, L) else
      match hget H s with
      | some (.row _ xs _ _) => match lo with
        | 0 => some (.tree (xs.take len), s :: L)
        | _ => none
      | _ => none
    | _ => none) else some (v, L)
def closeVs (H : Heap) : Bool → Nat → List Site → List AV → Option (List AV × List Site)
  | _, 0, _, _ => none
  | _, _ + 1, L, [] => some ([], L)
  | all, n + 1, L, v :: r => match closeV H all n L v with
    | some (v', L) => match closeVs H all n L r with | some (r', L) => some (v' :: r', L) | none => none
    | none => none
end
def deep : Nat := 40

def memS (s : Site) : List Site → Bool
  | [] => false
  | a :: r => Site.eq a s || memS s r
-- The places that a value names, through boxes.
mutual
def reach (H : Heap) : Nat → List Site → AV → List Site
  | 0, acc, _ => acc
  | n + 1, acc, v => bif AV.hasRef v then (match v with
    | .agg cs => reachs H n acc cs
    | .tuple cs => reachs H n acc cs
    | .iface _ v => reach H n acc v
    | .func _ as cs => reachs H n (reachs H n acc as) cs
    | .ref s _ _ => bif memS s acc then acc else match hget H s with
      | some (.box v _) => reach H n (acc ++ [s]) v
      | some (.row ..) => acc ++ [s]
      | _ => acc
    | .sref s _ _ => bif memS s acc then acc else match hget H s with
      | some (.box ..) => acc ++ [s]
      | some (.row ..) => acc ++ [s]
      | _ => acc
    | _ => acc) else acc
def reachs (H : Heap) : Nat → List Site → List AV → List Site
  | 0, acc, _ => acc
  | _ + 1, acc, [] => acc
  | n + 1, acc, v :: r => reachs H n (reach H n acc v) r
end

/-- Other names for places; what has none is lost. -/
abbrev Ren := List (Site × Site)
def Ren.get : Ren → Site → Option Site
  | [], _ => none
  | (a, c) :: r, s => bif Site.eq a s then some c else Ren.get r s
mutual
def renV (ρ : Ren) : Nat → AV → AV
  | 0, _ => .top
  | n + 1, v => bif AV.hasRef v then (match v with
    | .agg cs => .agg (renVs ρ n cs)
    | .tuple cs => .tuple (renVs ρ n cs)
    | .iface t v => .iface t (renV ρ n v)
    | .func f as cs => .func f (renVs ρ n as) (renVs ρ n cs)
    | .ref s i o => match ρ.get s with | some s' => .ref s' i o | none => .top
    | .sref s i o => match ρ.get s with | some s' => .sref s' i o | none => .top
    | .nils => .nils
    | _ => .top) else v
def renVs (ρ : Ren) : Nat → List AV → List AV
  | 0, l => l.map fun _ => .top
  | _ + 1, [] => []
  | n + 1, v :: r => renV ρ n v :: renVs ρ n r
end
def renB (ρ : Ren) : Blk → Blk
  | .box v wr => .box (renV ρ deep v) wr
  | b => b

/-! ### Strictness: a value, a row of values with its spine laid open; 'k' is handed the same -/
section
variable {β : Type}
-- what has no refs stays as it is
mutual
def frc (v : AV) (k : AV → β) : β :=
  bif AV.hasRef v then (match v with
    | .agg cs => frcs cs fun cs => k (.agg cs)
    | .tuple cs => frcs cs fun cs => k (.tuple cs)
    | .iface t v => frc v fun v => k (.iface t v)
    | .func f as cs => frcs as fun as => frcs cs fun cs => k (.func f as cs)
    | .ref s i o => k (.ref s i o)
    | .sref s i o => k (.sref s i o)
    | .nils => k .nils
    | .top => k .top
    | v => k v) else (match v with
    | .agg _ => k v
    | .tuple cs => frcs cs fun cs => k (.tuple cs)
    | .tree xs => k (.tree xs)
    | .cptr v => k (.cptr v)
    | .int i n => k (.int i n)
    | .bool b => k (.bool b)
    | .str b => k (.str b)
    | .iface t v => k (.iface t v)
    | v => k v)
termination_by structural v
def frcs (vs : List AV) (k : List AV → β) : β :=
  match vs with
  | [] => k []
  | v :: r => frc v fun v => frcs r fun r => k (v :: r)
termination_by structural vs
end
def spine (l : List AV) (k : List AV → β) : β :=
  match l with
  | [] => k []
  | v :: r => spine r fun r => k (v :: r)
def frcB (b : Blk) (k : Blk → β) : β :=
  match b with
  | .box v wr => frc v fun v => k (.box v wr)
  | .row e xs wr rm => k (.row e xs wr rm)
  | .gone => k .gone
def frcBs (l : List Blk) (k : List Blk → β) : β :=
  match l with
  | [] => k []
  | b :: r => frcB b fun b => frcBs r fun r => k (b :: r)
def frcH (H : Heap) (k : Heap → β) : β :=
  match H with
  | [] => k []
  | (a, b) :: r => frcB b fun b => frcH r fun r => k ((a, b) :: r)
def frcS (l : List Site) (k : List Site → β) : β :=
  match l with
  | [] => k []
  | .tmp t :: r => frcS r fun r => k (.tmp t :: r)
  | .inc t :: r => frcS r fun r => k (.inc t :: r)
  | .out t :: r => frcS r fun r => k (.out t :: r)
  | .told t i :: r => frcS r fun r => k (.told t i :: r)
  | .head t i :: r => frcS r fun r => k (.head t i :: r)
end

/-! ### One operation -/

/-- What an operation does to the blocks. -/
inductive Fx where
  | alloc (s : Site) (b : Blk)
  | setBox (s : Site) (o : Nat) (cs : List AV)
  | setVar (s : Site) (n : Nat) (v : AV)
  | setRow (s : Site) (i : Nat) (v : AV)
  | setBlk (s : Site) (b : Blk)
  | drop (s : Site)
  | frz (s : Site)
  | step

abbrev Acc := List (Site × Option (Nat × Nat))
/-- An operation's value, what it does to blocks; the places that it looks at (cells of a box: from, how many; none: all of it). -/
structure Script where
  v : AV
  fx : List Fx
  rd : Acc

def setCells : List AV → Nat → List AV → List AV
  | [], _, _ => []
  | c :: r, 0, [] => c :: r
  | _ :: r, 0, d :: ds => d :: setCells r 0 ds
  | c :: r, n + 1, ds => c :: setCells r n ds

def setPart (v : AV) (o : Nat) (cs : List AV) : AV :=
  match v with
  | .agg l => .agg (setCells l o cs)
  | _ => match cs with
    | [c] => c
    | _ => v

def hset : Heap → Site → Blk → Heap
  | [], _, _ => []
  | (a, b) :: r, s, c => bif Site.eq a s then (a, c) :: r else (a, b) :: hset r s c

def Fx.app (H : Heap) : Fx → Heap
  | .alloc s b => (s, b) :: H
  | .setBox s o cs => match hget H s with
    | some (.box v wr) => hset H s (.box (setPart v o cs) wr)
    | _ => H
  | .setVar s _ v => match hget H s with
    | some (.box _ wr) => hset H s (.box v wr)
    | _ => H
  | .setRow s i v => match hget H s with
    | some (.row e xs wr rm) => hset H s (.row e (xs.set i v) wr rm)
    | _ => H
  | .setBlk s b => hset H s b
  | .drop s => hset H s .gone
  | .frz s => match hget H s with
    | some (.row e xs _ rm) => hset H s (.row e xs false rm)
    | some (.box v _) => hset H s (.box v false)
    | _ => H
  | .step => H
def fxApp (H : Heap) : List Fx → Heap
  | [] => H
  | f :: r => fxApp (f.app H) r

section
variable {β : Type}
def hsetK (H : Heap) (s : Site) (c : Blk) (k : Heap → β) : β :=
  match H with
  | [] => k []
  | (a, b) :: r => bif Site.eq a s then k ((a, c) :: r) else hsetK r s c fun r => k ((a, b) :: r)
/-- The same, laid open. -/
def Fx.appK (H : Heap) (f : Fx) (k : Heap → β) : β :=
  match f with
  | .alloc s b => k ((s, b) :: H)
  | .setBox s o cs => match hget H s with
    | some (.box v wr) => match v with
      | .agg l => spine (setCells l o cs) fun l => hsetK H s (.box (.agg l) wr) k
      | v => match cs with
        | [c] => hsetK H s (.box c wr) k
        | _ => hsetK H s (.box v wr) k
    | _ => k H
  | .setVar s _ v => match hget H s with
    | some (.box _ wr) => hsetK H s (.box v wr) k
    | _ => k H
  | .setRow s i v => match hget H s with
    | some (.row e xs wr rm) => hsetK H s (.row e (xs.set i v) wr rm) k
    | _ => k H
  | .setBlk s b => hsetK H s b k
  | .drop s => hsetK H s .gone k
  | .frz s => match hget H s with
    | some (.row e xs _ rm) => hsetK H s (.row e xs false rm) k
    | some (.box v _) => hsetK H s (.box v false) k
    | _ => k H
  | .step => k H
def fxAppK (H : Heap) (fx : List Fx) (k : Heap → β) : β :=
  match fx with
  | [] => k H
  | f :: r => f.appK H fun H => fxAppK H r k
end
def rdAll : List Site → Acc
  | [] => []
  | a :: r => (a, none) :: rdAll r
def frzAll : List Site → List Fx
  | [] => []
  | a :: r => .frz a :: frzAll r
section
variable {α : Type} (cfg : Cfg)

def pure1 (v : AV) (k : Script → DT α) : DT α := k ⟨v, [], []⟩

/-- The part of a value from a cell on, as a variable of the type. -/
def partD (t : TypeId) (v : AV) (o : Nat) (k : AV → DT α) : DT α :=
  match cfg.tab.get t with
  | some ti =>
    bif ti.agg then
      (bif Nat.beq o 0 && Nat.beq ti.sz v.cells.length then
        (match v with | .agg _ => k v | _ => .fail 1)
       else (bif Nat.ble (o + ti.sz) v.cells.length then spine ((v.cells.drop o).take ti.sz) fun cs => k (.agg cs) else .fail 2))
    else (match v.cells.drop o with | c :: _ => bif isOneCell c then k c else .fail 18 | [] => .fail 3)
  | none => .fail 4

/-- What a pointer points to; the places looked at. -/
def loadD (s : St) (t : TypeId) (p : AV) (k : Script → DT α) : DT α :=
  match p with
  | .cptr v => partD cfg t v 0 fun x => k ⟨x, [], []⟩
  | .ref st i o => match hget s.H st with
    | some (.box v _) => match i with
      | 0 => partD cfg t v o fun x => k ⟨x, [], [(st, some (o, x.cells.length))]⟩
      | _ => .fail 5
    | some (.row _ xs _ _) => .elem xs i fun v => partD cfg t v o fun x => k ⟨x, [], [(st, none)]⟩
    | _ => .fail 6
  | _ => .fail 7

def allOneCell : List AV → Bool
  | [] => true
  | v :: r => isOneCell v && allOneCell r

def storeD (s : St) (t : TypeId) (p x : AV) (k : Script → DT α) : DT α :=
  match cfg.tab.get t with
  | some ti =>
    bif Nat.beq x.cells.length ti.sz && allOneCell x.cells then
      match p with
      | .ref st i o => match hget s.H st with
        | some (.box v wr) => match i with
          | 0 => bif !wr then .fail 17 else bif Nat.beq o 0 && Nat.beq ti.sz v.cells.length then k ⟨.tuple [], [.setVar st ti.sz x], []⟩
              else (bif Nat.ble (o + ti.sz) v.cells.length then k ⟨.tuple [], [.setBox st o x.cells], []⟩ else .fail 8)
          | _ => .fail 9
        | some (.row _ xs wr _) => bif wr then
            (match closeV s.H true deep [] x with
             | some (x', L) => bif memS st L then .fail 23 else .elem xs i fun v =>
                 bif Nat.beq o 0 && Nat.beq ti.sz v.cells.length then k ⟨.tuple [], frzAll L ++ [.setRow st i x'], rdAll L⟩
                 else (bif Nat.ble (o + ti.sz) v.cells.length then
                   spine (setCells v.cells o x'.cells) fun cs => k ⟨.tuple [], frzAll L ++ [.setRow st i (.agg cs)], rdAll L⟩ else .fail 10)
             | none => .fail 11)
          else .fail 12
        | _ => .fail 13
      | _ => .fail 14
    else .fail 15
  | none => .fail 16

/-- The elements of a slice, of so many cells each, as they are now. -/
def viewD (s : St) (sz : Nat) (x : AV) (k : List AV → Acc → DT α) : DT α :=
  match x with
  | .tree xs => .esz xs sz (k xs [])
  | .nils => k [] []
  | .sref st lo len => match hget s.H st with
    | some (.row e xs _ _) => bif Nat.beq e sz || Nat.beq e 0 then
        (match lo with
         | 0 => k (xs.take len) [(st, none)]
         | _ => k ((xs.drop lo).take len) [(st, none)])
      else .fail 19
    | _ => .fail 20
  | .str b => bif Nat.beq sz 1 then k (b.map fun c => .int .u8 c.toNat) [] else .fail 22
  | _ => .fail 21

def lenOf (d : Sh) (x : AV) : Option Nat :=
  match d, x with
  | .slice _, .tree xs => some xs.length
  | .slice _, .nils => some 0
  | .slice _, .sref _ _ len => some len
  | .string, .str b => some b.length
  | _, _ => none

/-- Are two structs alike? Field by field; 'f': are two parts alike. -/
def eqFs (cfg : Cfg) (f : TypeId → List AV → List AV → Option Bool) (xs ys : List AV) : List (Nat × TypeId) → Option Bool
  | [] => some true
  | (o, t) :: r => match cfg.tab.get t with
    | some ti => bif Nat.ble (o + ti.sz) xs.length && Nat.ble (o + ti.sz) ys.length then
        (match f t ((xs.drop o).take ti.sz) ((ys.drop o).take ti.sz) with
         | some c => (match eqFs cfg f xs ys r with | some d => some (c && d) | none => none)
         | none => none)
        else none
    | none => none
/-- Are two variables of a type alike? Their cells, side by side. -/
def eqT (cfg : Cfg) : Nat → TypeId → List AV → List AV → Option Bool
  | 0, _, _, _ => none
  | n + 1, t, xs, ys => match cfg.tab.get t with
    | some ti => match ti.desc with
      | .struct => bif ti.cmp then eqFs cfg (eqT cfg n) xs ys ti.fields else none
      | .array l _ => bif ti.cmp && Nat.beq ti.fields.length l then eqFs cfg (eqT cfg n) xs ys ti.fields else none
      | .int _ => (match xs, ys with
        | [.int k a], [.int l b] => bif decide (k = l) then some (decide (a = b)) else none
        | _, _ => none)
      | .bool => (match xs, ys with
        | [.bool a], [.bool b] => some (decide (a = b))
        | _, _ => none)
      | .string => (match xs, ys with
        | [.str a], [.str b] => some (decide (a = b))
        | _, _ => none)
      | _ => none
    | none => none

/-- Are two values of one dynamic type alike? -/
def eqI (cfg : Cfg) (t : TypeId) (v w : AV) : Option Bool :=
  match cfg.tab.get t with
  | some ti => bif ti.cmp then (bif ti.agg then (match v, w with
      | .agg xs, .agg ys => eqT cfg 8 t xs ys
      | _, _ => none)
    else (bif isOneCell v && isOneCell w then eqT cfg 8 t [v] [w] else none)) else none
  | none => none
def eqD (draw cx cy : Bool) (x y : AV) (k : Bool → DT α) : DT α :=
  match x, y with
  | .bool a, .bool b => k (decide (a = b))
  | .str a, .str b => k (decide (a = b))
  | .nili, .nili => bif cx || cy then k true else .fail 29
  | .iface _ _, .nili => k false
  | .nili, .iface _ _ => k false
  | .iface t v, .iface u w => bif Nat.beq t u then (match eqI cfg t v w with | some c => k c | none => .fail 30) else k false
  | .nilf, .nilf => k true
  | .func _ _ _, .nilf => k false
  | .nilp, .nilp => k true
  | .cptr _, .nilp => k false
  | .nilp, .cptr _ => k false
  | .ref _ _ _, .nilp => k false
  | .nilp, .ref _ _ _ => k false
  | .tree xs, .nils => bif draw || !cy then .fail 31 else .node xs.isEmpty (.amb (k true) (k false)) (k false)
  | .sref _ _ len, .nils => bif draw || !cy then .fail 31 else .node (Nat.beq len 0) (.amb (k true) (k false)) (k false)
  | .nils, .nils => bif draw || !cy then .fail 31 else .amb (k true) (k false)
  | _, _ => .fail 32

def kindOf (t : TypeId) : Option IntKind :=
  match cfg.tab.get t with
  | some { desc := .int k, .. } => some k
  | _ => none

/-- Is it compared at the type that it is of? -/
def eqShape (t : TypeId) (x : AV) : Bool :=
  match cfg.tab.get t with
  | some ti => match ti.desc, x with
    | .bool, .bool _ => true
    | .iface, .nili => true
    | .iface, .iface _ _ => true
    | .pointer _, .nilp => true
    | .pointer _, .cptr _ => true
    | .pointer _, .ref _ _ _ => true
    | .slice _, .tree _ => true
    | .slice _, .nils => true
    | .slice _, .sref _ _ _ => true
    | _, _ => false
  | none => false
def isConst : Operand → Bool
  | .const _ => true
  | _ => false

def intD (op : BinOp) (k : IntKind) (a b : Int) (q : AV → DT α) : DT α :=
  match op with
  | .add => q (.int k (k.wrap (a + b)))
  | .sub => q (.int k (k.wrap (a - b)))
  | .mul => q (.int k (k.wrap (a * b)))
  | .quo => .node (decide (b ≠ 0)) (q (.int k (k.wrap (a.tdiv b)))) (.fail 33)
  | .rem => .node (decide (b ≠ 0)) (q (.int k (a.tmod b))) (.fail 33)
  | .and => q (.int k (k.wrap (BitVec.ofInt k.bits a &&& BitVec.ofInt k.bits b).toNat))
  | .or => q (.int k (k.wrap (BitVec.ofInt k.bits a ||| BitVec.ofInt k.bits b).toNat))
  | .xor => q (.int k (k.wrap (BitVec.ofInt k.bits a ^^^ BitVec.ofInt k.bits b).toNat))
  | .andNot => q (.int k (k.wrap (BitVec.ofInt k.bits a &&& ~~~ (BitVec.ofInt k.bits b)).toNat))
  | .eql => q (.bool (decide (a = b)))
  | .neq => q (.bool (!decide (a = b)))
  | .lss => q (.bool (decide (a < b)))
  | .leq => q (.bool (decide (a ≤ b)))
  | .gtr => q (.bool (decide (b < a)))
  | .geq => q (.bool (decide (b ≤ a)))
  | _ => .fail 34

def bytesLt : List UInt8 → List UInt8 → Bool
  | _, [] => false
  | [], _ :: _ => true
  | a :: x, b :: y => a < b || (a == b && bytesLt x y)

def binD (draw cx cy : Bool) (t : TypeId) (op : BinOp) (x y : AV) (q : AV → DT α) : DT α :=
  match x, y with
  | .int k a, .int k' b => match op with
    | .shl => .node (decide (0 ≤ b)) (q (.int k (k.wrap (a * 2 ^ (min b.toNat k.bits))))) (.fail 35)
    | .shr => .node (decide (0 ≤ b)) (q (.int k (a.fdiv (2 ^ (min b.toNat k.bits))))) (.fail 35)
    | _ => bif decide (k = k') then intD op k a b q else .fail 36
  | .str a, .str b => match op with
    | .add => .node (decide (a.length + b.length < 9223372036854775808)) (q (.str (a ++ b))) (.fail 37)
    | .eql => q (.bool (decide (a = b)))
    | .neq => q (.bool (!decide (a = b)))
    | .lss => q (.bool (bytesLt a b))
    | .leq => q (.bool (bytesLt a b || decide (a = b)))
    | .gtr => q (.bool (!(bytesLt a b || decide (a = b))))
    | .geq => q (.bool (!bytesLt a b))
    | _ => .fail 38
  | .agg xs, .agg ys => match cfg.tab.get t with
    | some { desc := .struct, .. } => (match op with
      | .eql => (match eqT cfg 8 t xs ys with | some c => q (.bool c) | none => .fail 26)
      | .neq => (match eqT cfg 8 t xs ys with | some c => q (.bool (!c)) | none => .fail 27)
      | _ => .fail 25)
    | some { desc := .array _ _, .. } => (match op with
      | .eql => (match eqT cfg 8 t xs ys with | some c => q (.bool c) | none => .fail 26)
      | .neq => (match eqT cfg 8 t xs ys with | some c => q (.bool (!c)) | none => .fail 27)
      | _ => .fail 25)
    | _ => .fail 24
  | _, _ => match op with
    | .eql => bif eqShape cfg t x then eqD cfg draw cx cy x y fun c => q (.bool c) else .fail 28
    | .neq => bif eqShape cfg t x then eqD cfg draw cx cy x y fun c => q (.bool (!c)) else .fail 28
    | _ => .fail 39

/-- A bound of a slice expression. -/
def boundD (x : Option AV) (most : Nat) (dflt : Nat) (k : Nat → DT α) : DT α :=
  match x with
  | none => k dflt
  | some (.int _ i) => .node (decide (0 ≤ i ∧ i ≤ most)) (k i.toNat) (.fail 40)
  | some _ => .fail 41

def sliceD (t : TypeId) (x : AV) (lo hi : Option AV) (k : AV → DT α) : DT α :=
  match cfg.tab.get t with
  | some { desc := .slice e, .. } => match cfg.tab.get e with
    | some te => match x with
      | .tree xs => match lo with
        | none => boundD hi xs.length xs.length fun h => k (.tree (xs.take h))
        | some _ => .esz xs te.sz (match hi with
          | none => boundD lo xs.length 0 fun l => k (.tree (xs.drop l))
          | some _ => boundD hi xs.length xs.length fun h => boundD lo h 0 fun l => k (.tree ((xs.take h).drop l)))
      | .nils => boundD hi 0 0 fun h => boundD lo h 0 fun _ => k .nils
      | .sref s b len => match lo with
        | none => boundD hi len len fun h => k (.sref s b h)
        | some _ => .fail 45
      | _ => .fail 42
    | none => .fail 46
  | some { desc := .string, .. } => match x with
    | .str bs => match lo with
      | none => boundD hi bs.length bs.length fun h => k (.str (bs.take h))
      | some _ => match hi with
        | none => boundD lo bs.length 0 fun l => k (.str (bs.drop l))
        | some _ => boundD hi bs.length bs.length fun h => boundD lo h 0 fun l => k (.str ((bs.take h).drop l))
    | _ => .fail 47
  | _ => .fail 44

/-- Room for so many bytes. -/
def roomMost : Nat := 140737488355328

def noSite (H : Heap) (s : Site) (k : DT α) : DT α :=
  match hget H s with
  | none => k
  | some _ => .fail 43

def zeroFits (te : TI) : Bool :=
  match te.zero with
  | some z => Nat.beq z.cells.length te.sz
  | none => false
/-- x = append(x, y...): the row is handed on to a new name; cut first where it was longer. -/
def appendD (s : St) (dst : Nat) (t : TypeId) (x y : AV) (k : Script → DT α) : DT α :=
  match cfg.tab.get t with
  | some { desc := .slice e, .. } => match cfg.tab.get e with
    | some te => bif Nat.blt 0 te.sz && Nat.blt 0 te.bytes && zeroFits te then viewD s te.sz y fun ys rd =>
      match x with
      | .nils => .node (decide (ys.length * te.bytes ≤ roomMost))
          (noSite s.H (.tmp dst) (k ⟨.sref (.tmp dst) 0 ys.length, [.alloc (.tmp dst) (.row te.sz ys true true)], rd⟩)) (.fail 50)
      | .sref st lo len => match hget s.H st with
        | some (.row e xs wr rm) => bif rm && (Nat.beq e te.sz || Nat.beq e 0) then
            .node (decide ((len + ys.length) * te.bytes ≤ roomMost))
              (match lo with
               | 0 => .node (decide (len = xs.length))
                 (noSite s.H (.tmp dst) (k ⟨.sref (.tmp dst) 0 (len + ys.length), [.drop st, .alloc (.tmp dst) (.row te.sz (xs ++ ys) wr true)], (st, none) :: rd⟩))
                 (.node (wr && decide (len ≤ xs.length))
                   (noSite s.H (.tmp dst) (k ⟨.sref (.tmp dst) 0 (len + ys.length), [.drop st, .alloc (.tmp dst) (.row te.sz (xs.take len ++ ys) wr true)], (st, none) :: rd⟩)) (.fail 51))
               | _ => .fail 58) (.fail 52)
          else .fail 53
        | _ => .fail 54
      | _ => .fail 55
      else .fail 59
    | none => .fail 56
  | _ => .fail 57

def fillD : List AV → List (Nat × TypeId) → List (Nat × AV) → Option (List AV)
  | cs, _, [] => some cs
  | cs, fs, (i, v) :: r => match fs[i]? with
    | some (o, t) => match cfg.tab.get t with
      | some fi => bif Nat.beq v.cells.length fi.sz && Nat.ble (o + fi.sz) cs.length && allOneCell v.cells then fillD (setCells cs o v.cells) fs r else none
      | none => none
    | none => none
def parts (s : St) : List (Nat × Operand) → Option (List (Nat × AV))
  | [] => some []
  | (i, x) :: r => match opnd s x with
    | some v => match parts s r with | some l => some ((i, v) :: l) | none => none
    | none => none

/-- What a call is handed, what is borrowed; behind it. -/
def renInc : List Site → Nat → Ren
  | [], _ => []
  | p :: r, i => (p, .inc i) :: renInc r (i + 1)
def renOut : List Site → Nat → Ren
  | [], _ => []
  | p :: r, i => (p, .out i) :: renOut r (i + 1)
def blksOf (H : Heap) : List Site → Option (List Blk)
  | [] => some []
  | a :: r => match hget H a with
    | some b => match blksOf H r with | some l => some (b :: l) | none => none
    | none => none
def renBs (ρ : Ren) : List Blk → List Blk
  | [] => []
  | b :: r => renB ρ b :: renBs ρ r
def renBack : List Site → Nat → Ren
  | [], _ => []
  | p :: r, i => (.inc i, p) :: renBack r (i + 1)
def renTold (dst : Nat) : List Blk → Nat → Ren
  | [], _ => []
  | _ :: r, i => (.out i, .told dst i) :: renTold dst r (i + 1)
def fxBack : List Site → List Blk → List Fx
  | a :: r, b :: q => .setBlk a b :: fxBack r q
  | _, _ => []
def fxTold (dst : Nat) : List Blk → Nat → List Fx
  | [], _ => []
  | b :: r, i => .alloc (.told dst i) b :: fxTold dst r (i + 1)
def noTold (H : Heap) (dst : Nat) : List Blk → Nat → DT α → DT α
  | [], _, k => k
  | _ :: r, i, k => noSite H (.told dst i) (noTold H dst r (i + 1) k)

def fstIn (s : Site) : Ren → Bool
  | [] => false
  | (a, _) :: r => Site.eq a s || fstIn s r
def sndIn (s : Site) : Ren → Bool
  | [] => false
  | (_, a) :: r => Site.eq a s || sndIn s r
/-- No name twice. -/
def renOk : Ren → Bool
  | [] => true
  | (a, b) :: r => !fstIn a r && !sndIn b r && renOk r
def isLive (H : Heap) (s : Site) : Bool :=
  match hget H s with
  | some .gone => false
  | some _ => true
  | none => false
def hitsLive (H : Heap) : List Site → Bool
  | [] => true
  | s :: r => isLive H s && hitsLive H r
def callOk (H : Heap) (L : List Site) : Bool := hitsLive H L && renOk (renInc L 0)

def callD (s : St) (dst : Nat) (opn : Bool) (go : List AV → List Blk → (Res → DT α) → DT α) (args : List AV) (k : Script → DT α) : DT α :=
  bif opn then
    frcS (reachs s.H deep [] args) fun L =>
    bif callOk s.H L then
    match blksOf s.H L with
    | some bs => frcs (renVs (renInc L 0) deep args) fun args' => frcBs (renBs (renInc L 0) bs) fun bs =>
      go args' bs fun r => match r with
        | ⟨v, bk, ou⟩ => bif Nat.beq bk.length L.length && renOk (renBack L 0 ++ renTold dst ou 0) then
            noTold s.H dst ou 0 (frc (renV (renBack L 0 ++ renTold dst ou 0) deep v) fun v =>
              frcBs (renBs (renBack L 0 ++ renTold dst ou 0) bk) fun bk => frcBs (renBs (renBack L 0 ++ renTold dst ou 0) ou) fun ou =>
              k ⟨v, .step :: (fxBack L bk ++ fxTold dst ou 0), rdAll L⟩)
          else .fail 60
    | none => .fail 61
    else .fail 64
  else
    match closeVs s.H true deep [] args with
    | some (args', L) => frcs args' fun args' => go args' [] fun r => match r with
        | ⟨v, [], ou⟩ => bif v.flat then k ⟨v, [.step], rdAll L⟩
            else bif renOk (renTold dst ou 0) then
              noTold s.H dst ou 0 (frc (renV (renTold dst ou 0) deep v) fun v => frcBs (renBs (renTold dst ou 0) ou) fun ou =>
                k ⟨v, .step :: (frzAll L ++ fxTold dst ou 0), rdAll L⟩)
            else .fail 65
        | _ => .fail 62
    | none => .fail 63

def minInt : Int → List AV → Option Int
  | a, [] => some a
  | a, .int _ b :: r => minInt (if b < a then b else a) r
  | _, _ => none
def maxInt : Int → List AV → Option Int
  | a, [] => some a
  | a, .int _ b :: r => maxInt (if b > a then b else a) r
  | _, _ => none

/-- 0, 1, 2, ..: the values in order. -/
def inOrder : Nat → List (Nat × AV) → Option (List AV)
  | _, [] => some []
  | n, (i, v) :: r => bif Nat.beq i n then (match inOrder (n + 1) r with | some l => some (v :: l) | none => none) else none

def builtinD (s : St) (dst : Option Nat) (b : Builtin) (ats : List TypeId) (args : List AV) (k : Script → DT α) : DT α :=
  match b, args with
  | .len, [x] => match ats with
    | t :: _ => match cfg.tab.get t with
      | some ti => match lenOf ti.desc x with
        | some n => pure1 (.int .i64 n) k
        | none => .fail 70
      | none => .fail 75
    | [] => .fail 76
  | .append, [x, y] => match ats, dst with
    | [t, t2], some d => match cfg.tab.get t2 with
      | some { desc := .slice _, .. } => appendD cfg s d t x y k
      | some { desc := .string, .. } => appendD cfg s d t x y k
      | _ => .fail 77
    | _, _ => .fail 71
  | .min, .int kd a :: r => match minInt a r with | some m => pure1 (.int kd m) k | none => .fail 72
  | .max, .int kd a :: r => match maxInt a r with | some m => pure1 (.int kd m) k | none => .fail 73
  | _, _ => .fail 74

def convertD (s : St) (dst : Option Nat) (src d : TypeId) (x : AV) (k : Script → DT α) : DT α :=
  match cfg.tab.get src with
  | none => .fail 85
  | some ts => match x with
    | .int _ n => match kindOf cfg d with
      | some kd => pure1 (.int kd (kd.wrap n)) k
      | none => .fail 80
    | .str bs => match ts.desc with
      | .string => match cfg.tab.get d with
        | some { desc := .string, .. } => pure1 (.str bs) k
        | some { desc := .slice e, .. } => bif decide (kindOf cfg e = some .u8) then
            (match dst with
             | some dst => noSite s.H (.tmp dst) (k ⟨.sref (.tmp dst) 0 bs.length, [.alloc (.tmp dst) (.row 1 (bs.map fun c => .int .u8 c.toNat) true true)], []⟩)
             | none => .fail 84)
          else .fail 81
        | _ => .fail 82
      | _ => .fail 86
    | _ => match ts.desc with
      | .slice e => bif decide (kindOf cfg e = some .u8) then
          (match cfg.tab.get d with
          | some { desc := .string, .. } => viewD s 1 x fun xs rd => .bytes xs fun bs => k ⟨.str bs, [], rd⟩
          | _ => .fail 83)
        else .fail 87
      | _ => .fail 88

def fieldOf (t : TypeId) (f : Nat) : Option (Nat × TypeId) :=
  match cfg.tab.get t with
  | some ti => ti.fields[f]?
  | none => none

def hasCells (t : TypeId) : Bool :=
  match cfg.tab.get t with
  | some ti => Nat.blt 0 ti.sz
  | none => false
def allCells (n : Nat) : List AV → Bool
  | [] => true
  | v :: r => Nat.beq v.cells.length n && allOneCell v.cells && allCells n r

def allocD (s : St) (dst : Option Nat) (b : Blk) (v : Site → AV) (rd : Acc) (k : Script → DT α) : DT α :=
  match dst with
  | some d => noSite s.H (.tmp d) (k ⟨v (.tmp d), [.alloc (.tmp d) b], rd⟩)
  | none => .fail 90

/-- What is loaded from. -/
def gopnd (s : St) (x : Operand) : Option AV :=
  match x with
  | .global g => (match cfg.glob g with | some v => some (.cptr v) | none => none)
  | x => opnd s x
def opR (draw : Bool) (s : St) (o : Oper) (k : Script → DT α) : DT α :=
  match o.op with
  | .move x => match opnd s x with | some v => pure1 v k | none => .fail 100
  | .assign x => match opnd s x with | some v => pure1 v k | none => .fail 100
  | .pick c a b => match opnd s c with
    | some (.bool c) => .node c (match opnd s a with | some v => pure1 v k | none => .fail 101) (match opnd s b with | some v => pure1 v k | none => .fail 102)
    | _ => .fail 103
  | .alloc t => match cfg.tab.get t with
    | some { zero := some z, .. } => allocD s o.dst (.box z true) (fun st => .ref st 0 0) [] k
    | _ => .fail 104
  | .box _ x => match opnd s x with
    | some v => bif allOneCell v.cells then allocD s o.dst (.box v true) (fun st => .ref st 0 0) [] k else .fail 105
    | none => .fail 106
  | .build t ps => match cfg.tab.get t, parts s ps.toList with
    | some ti, some l => match ti.agg, ti.zero with
      | true, some z => match fillD cfg z.cells ti.fields l with
        | some cs => spine cs fun cs => pure1 (.agg cs) k
        | none => .fail 107
      | _, _ => .fail 108
    | _, _ => .fail 109
  | .buildSlice t len ps => match cfg.tab.get t, parts s ps.toList with
    | some { desc := .slice e, .. }, some l => match cfg.tab.get e with
      | some te => match inOrder 0 l with
        | some xs => bif Nat.beq xs.length len && Nat.blt 0 te.sz && allCells te.sz xs && Nat.ble (len * te.sz) 16777216 && te.zero.isSome then
            (match closeVs s.H true deep [] xs with
             | some (xs', L) => spine xs' fun xs' => match o.dst with
               | some d => noSite s.H (.tmp d) (k ⟨.sref (.tmp d) 0 len, frzAll L ++ [.alloc (.tmp d) (.row te.sz xs' true true)], rdAll L⟩)
               | none => .fail 90
             | none => .fail 110)
          else .fail 111
        | none => .fail 112
      | none => .fail 113
    | _, _ => .fail 114
  | .load t a => match gopnd cfg s a with | some p => loadD cfg s t p k | none => .fail 115
  | .store t a x => match opnd s a, opnd s x with | some p, some v => storeD cfg s t p v k | _, _ => .fail 116
  | .nilCheck x => match opnd s x with
    | some .nilp => .fail 117 | some .nili => .fail 118 | some .nilf => .fail 119 | some .top => .fail 120 | some (.raw _) => .fail 120
    | some v => pure1 v k
    | none => .fail 121
  | .binOp op t x y _ => match opnd s x, opnd s y with
    | some a, some b => binD cfg draw (isConst x) (isConst y) t op a b fun v => pure1 v k
    | _, _ => .fail 122
  | .unOp op _ x => match op, opnd s x with
    | .not, some (.bool b) => pure1 (.bool (!b)) k
    | .neg, some (.int kd n) => pure1 (.int kd (kd.wrap (0 - n))) k
    | _, _ => .fail 123
  | .convert src d x => match opnd s x with | some v => convertD cfg s o.dst src d v k | none => .fail 124
  | .makeInterface t x => match opnd s x with
    | some v => match cfg.tab.get t with
      | some ti => match ti.desc with
        | .iface => .fail 125
        | _ => bif isOneCell v || allOneCell v.cells then pure1 (.iface t v) k else .fail 125
      | none => .fail 126
    | none => .fail 126
  | .makeFunc (.func f) as cs => match opnds s as.toList, opnds s cs.toList with
    | some as, some cs => pure1 (.func f as cs) k
    | _, _ => .fail 127
  | .makeSlice t l c => match cfg.tab.get t, opnd s l, opnd s c with
    | some { desc := .slice e, .. }, some (.int _ n), some (.int _ m) => match cfg.tab.get e with
      | some te => match te.zero with
        | some z => bif !(Nat.blt 0 te.sz && Nat.beq z.cells.length te.sz && allOneCell z.cells) then .fail 159 else .node (decide (0 ≤ n ∧ n ≤ m ∧ m ≤ roomMost ∧ m * te.bytes ≤ roomMost))
            (allocD s o.dst (.row te.sz (List.replicate n.toNat z) true true) (fun st => .sref st 0 n.toNat) [] k) (.fail 128)
        | none => .fail 129
      | none => .fail 130
    | _, _, _ => .fail 131
  | .slice t x lo hi mx => match mx with
    | none => match opnd s x, (match lo with | some y => (match opnd s y with | some v => some (some v) | none => none) | none => some none), (match hi with | some y => (match opnd s y with | some v => some (some v) | none => none) | none => some none) with
      | some v, some l, some h => sliceD cfg t v l h fun v => pure1 v k
      | _, _, _ => .fail 132
    | some _ => .fail 133
  | .fieldAddr t x f => match cfg.tab.get t with
    | some ti => match ti.desc with
      | .struct => match fieldOf cfg t f, opnd s x with
        | some (off, ft), some (.ref a i o) => bif hasCells cfg ft then pure1 (.ref a i (o + off)) k else .fail 180
        | some (off, ft), some (.cptr v) => bif hasCells cfg ft then partD cfg ft v off fun x => pure1 (.cptr x) k else .fail 180
        | _, _ => .fail 134
      | _ => .fail 181
    | none => .fail 182
  | .field t x f => match cfg.tab.get t with
    | some ti => match ti.desc with
      | .struct => match fieldOf cfg t f, opnd s x with
        | some (off, ft), some (.agg cs) => partD cfg ft (.agg cs) off fun x => pure1 x k
        | _, _ => .fail 135
      | _ => .fail 181
    | none => .fail 182
  | .indexAddr t x ix => match opnd s x, opnd s ix with
    | some v, some (.int _ i) => match cfg.tab.get t with
      | some { desc := .slice et, .. } => match cfg.tab.get et with
        | some te => match v with
          | .tree xs => .node (decide (0 ≤ i)) (.elem xs i.toNat fun e => bif Nat.beq e.cells.length te.sz then pure1 (.cptr e) k else .fail 149) (.fail 136)
          | .sref a lo len => match hget s.H a with
            | some (.row e _ _ _) => bif Nat.beq e te.sz then
                .node (decide (0 ≤ i ∧ i < len)) (match lo with | 0 => k ⟨.ref a i.toNat 0, [], []⟩ | _ => .fail 150) (.fail 137)
              else .fail 151
            | _ => .fail 152
          | _ => .fail 142
        | none => .fail 153
      | some { desc := .array n et, .. } => match cfg.tab.get et with
        | some te => match v with
          | .ref a e o => .fin i n fun j => pure1 (.ref a e (o + j * te.sz)) k
          | .cptr w => .fin i n fun j => partD cfg et w (j * te.sz) fun x => pure1 (.cptr x) k
          | _ => .fail 139
        | none => .fail 138
      | _ => .fail 141
    | _, _ => .fail 143
  | .index t x ix => match opnd s x, opnd s ix with
    | some v, some (.int _ i) => match cfg.tab.get t with
      | some { desc := .string, .. } => match v with
        | .str bs => .node (decide (0 ≤ i)) (.byte bs i.toNat fun b => pure1 (.int .u8 b.toNat) k) (.fail 144)
        | _ => .fail 147
      | some { desc := .array n et, .. } => match v with
        | .agg _ => match cfg.tab.get et with
          | some te => .fin i n fun j => partD cfg et v (j * te.sz) fun x => pure1 x k
          | none => .fail 145
        | _ => .fail 146
      | _ => .fail 154
    | _, _ => .fail 148
  | .typeAssert x _ u ok => match opnd s x, cfg.tab.get u with
    | some .nili, some { zero := some z, .. } => bif ok then pure1 (.tuple [z, .bool false]) k else .fail 149
    | some (.iface t v), some ui =>
      let res (b : Bool) (y : AV) : DT α :=
        bif b then (bif ok then pure1 (.tuple [y, .bool true]) k else pure1 y k)
        else (bif ok then (match ui.zero with | some z => pure1 (.tuple [z, .bool false]) k | none => .fail 150) else .fail 151)
      match ui.desc with
      | .iface => .ta t u fun b => res b (.iface t v)
      | _ => res (Nat.beq t u) v
    | _, _ => .fail 152
  | .extract x i => match opnd s x with
    | some (.tuple vs) => match vs[i]? with | some v => pure1 v k | none => .fail 153
    | _ => .fail 154
  | .call c => match opnds s c.args.toList with
    | none => .fail 155
    | some args => match c.callee with
      | .value fx => match opnd s fx, o.dst with
        | some (.func f as cs), some d => callD s d (cfg.opens f) (fun a i q => .call f a i q) (as ++ args ++ cs) k
        | some (.func f as cs), none => callD s 0 (cfg.opens f) (fun a i q => .call f a i q) (as ++ args ++ cs) k
        | _, _ => .fail 156
      | .invoke rx name => match opnd s rx, o.dst with
        | some (.iface t v), some d => .meth t name fun f fld => bif fld then (match v with
          | .agg [c] => callD s d (cfg.opens f) (fun a i q => .call f a i q) (c :: args) k
          | _ => .fail 159) else callD s d (cfg.opens f) (fun a i q => .call f a i q) (v :: args) k
        | _, _ => .fail 157
      | .builtin b => builtinD cfg s o.dst b c.argTypes.toList args k
  | _ => .fail 158

/-! ### Regions -/
def yieldA (all : List Oper) (s : St) (j : Nat) : Option (Option Bool) :=
  match all[j]? with
  | some o => match o.dst with
    | some d => match tget s.T d with
      | some (.bool b) => some (some b)
      | some .top => none
      | some (.raw _) => none
      | some _ => some none
      | none => none
    | none => some none
  | none => some none

/-- The places whose block it writes on. -/
def Fx.hit : Fx → List Site
  | .setBox s _ _ => [s]
  | .setVar s _ _ => [s]
  | .setRow s _ _ => [s]
  | .setBlk s _ => [s]
  | .drop s => [s]
  | _ => []
def fxHit : List Fx → List Site
  | [] => []
  | f :: r => f.hit ++ fxHit r
def dropped (s : Site) : List Fx → Bool
  | [] => false
  | .drop a :: r => Site.eq a s || dropped s r
  | _ :: r => dropped s r
/-- Must k have come up ahead of j, by the edges that bind? -/
def ahead (ops : List Oper) : Nat → Nat → Nat → Bool
  | 0, _, _ => false
  | n + 1, k, j => match ops[j]? with
    | some o => (o.after.toList.any fun e => Region.binds .any e && Nat.beq e.on k) || (o.after.toList.any fun e => Region.binds .any e && ahead ops n k e.on)
    | none => false
/-- What was read and not yet bound: the operation's number, the places. -/
abbrev Pend := List (Nat × List Site)
def sitesOk (ops : List Oper) (k j : Nat) (H : Heap) (fx : List Fx) : List Site → Bool
  | [] => true
  | s :: r => isLive H s && !dropped s fx && (!memS s (fxHit fx) || ahead ops 3 k j) && sitesOk ops k j H fx r
def pendOk (ops : List Oper) (j : Nat) (H : Heap) (fx : List Fx) : Pend → Bool
  | [] => true
  | (k, l) :: r => sitesOk ops k j H fx l && pendOk ops j H fx r
def accSites : Acc → List Site
  | [] => []
  | (s, _) :: r => s :: accSites r
def isNil {β : Type} : List β → Bool
  | [] => true
  | _ => false
def putT (dst : Option Nat) (v : AV) (T : Temps) : Temps :=
  match dst with
  | some d => (d, v) :: T
  | none => T

def putTK {β : Type} (dst : Option Nat) (v : AV) (T : Temps) (k : Temps → β) : β :=
  match dst with
  | some d => k ((d, v) :: T)
  | none => k T
/-- One operation with its guard; 'q' says what may be done to memory. -/
def stepD (draw : Bool) (all : List Oper) (o : Oper) (T : Temps) (H : Heap) (q : List Fx → Bool) (k : Temps → Heap → Acc → DT α) : DT α :=
  let go := opR cfg draw ⟨T, H⟩ o fun sc => match sc with
    | ⟨v, fx, rd⟩ => bif q fx then fxAppK H fx fun H => putTK o.dst v T fun T => k T H rd else .fail 161
  match o.guard with
  | none => go
  | some (g, want) => match yieldA all ⟨T, H⟩ g with
    | some (some b) => bif want then .node b go (putTK o.dst (.tuple []) T fun T => k T H []) else .node b (putTK o.dst (.tuple []) T fun T => k T H []) go
    | some none => putTK o.dst (.tuple []) T fun T => k T H []
    | none => .fail 160

def opsD (all : List Oper) : List Oper → Temps → Heap → (St → DT α) → DT α
  | [], T, H, k => k ⟨T, H⟩
  | o :: os, T, H, k => stepD cfg false all o T H (fun _ => true) fun T H _ => opsD all os T H k

def planD (all : List Oper) : Plan → Temps → Heap → Pend → (St → DT α) → DT α
  | .stop, T, H, _, k => k ⟨T, H⟩
  | .sil i r, T, H, pend, k => match all[i]? with
    | some o => stepD cfg true all o T H isNil fun T H rd => planD all r T H (match rd with | [] => pend | rd => (i, accSites rd) :: pend) k
    | none => .fail 162
  | .eff i r, T, H, pend, k => match all[i]? with
    | some o => stepD cfg true all o T H (fun fx => hitsLive H (fxHit fx) && pendOk all i H fx pend) fun T H _ => planD all r T H pend k
    | none => .fail 163
  | .alt p q, T, H, pend, k => .amb (planD all p T H pend k) (planD all q T H pend k)

def regionD (plan : Plan) (ops : List Oper) (draw : Bool) (s : St) (k : St → DT α) : DT α :=
  match s with
  | ⟨T, H⟩ => bif draw then planD cfg ops plan T H [] k else opsD cfg ops ops T H k
end

/-! ### Loops: what lives at the head, by fixed names -/
/-- What lives: as it is, or as a tree. -/
def headT (s : St) : List (Nat × Nat) → List Site → Option (Temps × List Site)
  | [], L => some ([], L)
  | (t, fz) :: r, L => match tget s.T t with
    | some v => bif Nat.beq fz 1 then (match closeV s.H true deep L v with
        | some (v', L) => (match headT s r L with | some (T, L) => some ((t, v') :: T, L) | none => none)
        | none => none)
      else (match headT s r L with | some (T, L) => some ((t, v) :: T, L) | none => none)
    | none => none

def firstRegion : Code → Nat
  | .region id _ _ => id
  | .seq a _ => firstRegion a
  | .cond _ a _ => firstRegion a
  | .block _ a => firstRegion a
  | .loop a => firstRegion a
  | .scope a => firstRegion a
  | _ => 0

/-- New names for the places that live: by the first temporary that leads to it. -/
def headNames (t : Nat) : List Site → Nat → Ren
  | [], _ => []
  | p :: r, i => (match p with | .inc j => (.inc j, .inc j) | p => (p, .head t i)) :: headNames t r (i + 1)
def notIn (seen : List Site) : List Site → List Site
  | [] => []
  | p :: r => bif memS p seen then notIn seen r else p :: notIn seen r
def headRen (H : Heap) : Temps → List Site → Ren
  | [], _ => []
  | (t, v) :: r, seen => headNames t (notIn seen (reach H deep [] v)) 0 ++ headRen H r (seen ++ notIn seen (reach H deep [] v))
def headHeap (H : Heap) (ρ : Ren) : Ren → Heap
  | [] => []
  | (a, a') :: r => match hget H a with
    | some b => (a', renB ρ b) :: headHeap H ρ r
    | none => headHeap H ρ r
/-- Where a slice is nil: an empty row of its own. -/
def headRenT (ρ : Ren) : Temps → Temps
  | [] => []
  | (t, v) :: r => (t, match v with | .nils => .sref (.head t 0) 0 0 | v => renV ρ deep v) :: headRenT ρ r
def nilSz : List (Nat × Nat) → Nat → Nat
  | [], _ => 0
  | (a, m) :: r, t => bif Nat.beq a t then m - 2 else nilSz r t
def nilHeap (live : List (Nat × Nat)) : Temps → Heap
  | [] => []
  | (t, v) :: r => match v with
    | .nils => (.head t 0, .row (nilSz live t) [] true true) :: nilHeap live r
    | _ => nilHeap live r
def incSites : Heap → List Site
  | [] => []
  | (.inc i, _) :: r => .inc i :: incSites r
  | _ :: r => incSites r
def nilOk (ρ : Ren) : Heap → Bool
  | [] => true
  | (a, _) :: r => !sndIn a ρ && nilOk ρ r
/-- In order of names. -/
def Site.lt : Site → Site → Bool
  | .inc i, .inc j => Nat.blt i j
  | .inc _, _ => true
  | .out _, .inc _ => false
  | .out i, .out j => Nat.blt i j
  | .out _, _ => true
  | .head _ _, .inc _ => false
  | .head _ _, .out _ => false
  | .head t i, .head u j => Nat.blt t u || (Nat.beq t u && Nat.blt i j)
  | .head _ _, _ => true
  | _, _ => false
def insH (a : Site) (b : Blk) : Heap → Heap
  | [] => [(a, b)]
  | (c, d) :: r => bif Site.lt c a then (c, d) :: insH a b r else (a, b) :: (c, d) :: r
def sortH : Heap → Heap
  | [] => []
  | (a, b) :: r => insH a b (sortH r)
/-- A box's nil slice at a cell becomes an empty row of its own. -/
def boxNil (s : Site) (t off esz : Nat) (H : Heap) : Heap :=
  match hget H s with
  | some (.box (.agg cs) wr) => match cs[off]? with
    | some .nils => match hget H (.told (1000000 + t) off) with
      | none => (.told (1000000 + t) off, .row esz [] true true) :: hset H s (.box (.agg (cs.set off (.sref (.told (1000000 + t) off) 0 0))) wr)
      | some _ => H
    | _ => H
  | _ => H
/-- The code's digits, to the base of 1000: 32 * cell + size of the elements. -/
def boxNilC (s : Site) (t : Nat) : Nat → Nat → Heap → Heap
  | 0, _, H => H
  | n + 1, c, H => bif Nat.beq c 0 then H else boxNilC s t n (c / 1000) (boxNil s t (c % 1000 / 32) (c % 1000 % 32) H)
def boxNils (T : Temps) : List (Nat × Nat) → Heap → Heap
  | [], H => H
  | (t, c) :: r, H => bif Nat.blt c 1000 then boxNils T r H else
    match tget T t with
    | some (.ref s 0 0) => boxNils T r (boxNilC s t 16 (c / 1000) H)
    | _ => boxNils T r H
def head0 (live : List (Nat × Nat)) (s : St) : Option St :=
  match headT s live [] with
  | some (T, L) =>
    let H' := fxApp s.H (frzAll L)
    let ρ := headNames 0 (incSites s.H) 0 ++ headRen H' T (incSites s.H)
    let N := nilHeap live T
    bif renOk ρ && nilOk ρ N then some ⟨headRenT ρ T, sortH (N ++ headHeap H' ρ ρ)⟩ else none
  | none => none
def head (live : List (Nat × Nat)) (s : St) : Option St :=
  match s with
  | ⟨T, H⟩ => head0 live ⟨T, boxNils T live H⟩
section
variable {β : Type}
def frcT (T : Temps) (k : Temps → β) : β :=
  match T with
  | [] => k []
  | (t, v) :: r => frc v fun v => frcT r fun r => k ((t, v) :: r)
def frcSt (s : St) (k : St → β) : β :=
  match s with
  | ⟨T, H⟩ => frcT T fun T => frcH H fun H => k ⟨T, H⟩
end

section
variable {α : Type} (cfg : Cfg) (fid : FuncId)

def execD : Code → St → (Ex → St → DT α) → DT α
  | .skip, s, k => k .normal s
  | .label _, s, k => k .normal s
  | .region id ops draw, s, k => regionD cfg (cfg.plan fid id) ops.toList draw s (k .normal)
  | .seq a b, s, k => execD a s fun e s' => match e with
    | .normal => execD b s' k
    | e => k e s'
  | .cond c a b, s, k => match opnd s c with
    | some (.bool c) => .node c (execD a s k) (execD b s k)
    | _ => .fail 170
  | .block id a, s, k => execD a s fun e s' => match e with
    | .exit id' => bif Nat.beq id' id then k .normal s' else k (.exit id') s'
    | e => k e s'
  | .loop a, s, k =>
    match head (cfg.live fid (firstRegion a)) s with
    | some s' => frcSt s' fun s' => .loop a (cfg.live fid (firstRegion a)) s' k
    | none => .fail 171
  | .exit id, s, k => k (.exit id) s
  | .ret, s, k => k .ret s
  | _, _, _ => .fail 172

/-- Behind a round. -/
def againD (body : Code) (live : List (Nat × Nat)) (k : Ex → St → DT α) (e : Ex) (s : St) : DT α :=
  match e with
  | .normal => match head live s with
    | some s' => frcSt s' fun s' => .loop body live s' k
    | none => .fail 173
  | e => k e s

def argsT : Nat → List AV → Temps
  | _, [] => []
  | i, v :: r => (i, v) :: argsT (i + 1) r
def incH : Nat → List Blk → Heap
  | _, [] => []
  | i, b :: r => (.inc i, b) :: incH (i + 1) r

def resultsD (s : St) : List ResultVar → (List AV → DT α) → DT α
  | [], k => k []
  | .tmp t :: r, k => match tget s.T t with
    | some v => resultsD s r fun vs => k (v :: vs)
    | none => .fail 174
  | .cell a t :: r, k => match tget s.T a with
    | some p => loadD cfg s t p fun sc => resultsD s r fun vs => k (sc.v :: vs)
    | none => .fail 175

def incVals (H : Heap) : Nat → Nat → List AV
  | 0, _ => []
  | n + 1, i => (match hget H (.inc i) with | some (.box v _) => [v] | _ => []) ++ incVals H n (i + 1)
def ownRefs : List Site → List Site
  | [] => []
  | a :: r => bif a.isInc then ownRefs r else a :: ownRefs r
def renSelf : Nat → Nat → Ren
  | 0, _ => []
  | n + 1, i => (.inc i, .inc i) :: renSelf n (i + 1)
def takeB (H : Heap) (mk : Nat → Site) : Nat → Nat → Option (List Blk)
  | 0, _ => some []
  | n + 1, i => match hget H (mk i) with
    | some b => match takeB H mk n (i + 1) with | some l => some (b :: l) | none => none
    | none => none

def oneA : List AV → AV
  | [v] => v
  | vs => .tuple vs
/-- What is handed back. -/
def nilRes (ninc : Nat) (v : AV) : Option Res :=
  bif cfg.fresh fid && Nat.beq ninc 0 then (match v with
    | .nils => some ⟨.sref (.out 0) 0 0, [], [.row (cfg.nilsz fid) [] true true]⟩
    | _ => none) else none
def finishD (s : St) (ninc : Nat) (vs : List AV) : DT Res :=
  match nilRes cfg fid ninc (oneA vs) with
  | some r => .ret r
  | none =>
  match (bif cfg.fresh fid then some (oneA vs, []) else closeV s.H false deep [] (oneA vs)) with
  | some (v, Lz) =>
    frcS (bif cfg.fresh fid then ownRefs (reachs s.H deep [] (v :: incVals s.H ninc 0)) else []) fun L =>
    let ρ := renSelf ninc 0 ++ renOut L 0
    bif renOk ρ then
      frcH (headHeap (fxApp s.H (frzAll Lz)) ρ ρ) fun H' =>
      match takeB H' .inc ninc 0, takeB H' .out L.length 0 with
      | some bs, some os => frc (renV ρ deep v) fun v => .ret ⟨v, bs, os⟩
      | _, _ => .fail 176
    else .fail 177
  | none => .fail 182

def startD (fn : Func) (args : List AV) (inc : List Blk) : DT Res :=
  match fn.body with
  | some c => bif Nat.ble args.length fn.ntmps then execD cfg fid c ⟨argsT 0 args, incH 0 inc⟩ fun e s => match e with
    | .exit _ => .fail 178
    | _ => resultsD cfg s fn.results.toList fun vs => finishD cfg fid s inc.length vs
    else .fail 183
  | none => .fail 179
end
end Go.Ab
