/- Filters, words, meshes: plain Lean. -/
import Derived.Test.YtmkkhaonakdgpaaDoorAbRef
import Derived.Test.YtmkkhaonakdgpaaDoorAbSatE
namespace Go.Ab
open Go
/-- A filter: bare, of one, of two. -/
inductive Flt
  | leaf (op key lo hi : Int) (tag : List UInt8)
  | one (a : Flt)
  | two (op : Int) (a b : Flt)
  deriving DecidableEq
def Flt.op : Flt → Int
  | .leaf o _ _ _ _ => o
  | .one _ => 7
  | .two o _ _ => o
def Flt.key : Flt → Int
  | .leaf _ k _ _ _ => k
  | _ => 0
def Flt.lo : Flt → Int
  | .leaf _ _ l _ _ => l
  | _ => 0
def Flt.hi : Flt → Int
  | .leaf _ _ _ h _ => h
  | _ => 0
def Flt.tag : Flt → List UInt8
  | .leaf _ _ _ _ t => t
  | _ => []
def Flt.args : Flt → List Flt
  | .leaf _ _ _ _ _ => []
  | .one a => [a]
  | .two _ a b => [a, b]
def encArgs : Flt → List AV
  | .leaf _ _ _ _ _ => []
  | .one a => [.agg [.int .i64 a.op, .int .i64 a.key, .int .i64 a.lo, .int .i64 a.hi, .str a.tag, .tree (encArgs a)]]
  | .two _ a b => [.agg [.int .i64 a.op, .int .i64 a.key, .int .i64 a.lo, .int .i64 a.hi, .str a.tag, .tree (encArgs a)], .agg [.int .i64 b.op, .int .i64 b.key, .int .i64 b.lo, .int .i64 b.hi, .str b.tag, .tree (encArgs b)]]
def encFlt (f : Flt) : AV := .agg [.int .i64 f.op, .int .i64 f.key, .int .i64 f.lo, .int .i64 f.hi, .str f.tag, .tree (encArgs f)]
theorem encFlt_eq (f : Flt) : encFlt f = .agg [.int .i64 f.op, .int .i64 f.key, .int .i64 f.lo, .int .i64 f.hi, .str f.tag, .tree (f.args.map encFlt)] := by cases f <;> rfl
theorem encFlt_leaf (o k l h : Int) (t : List UInt8) : encFlt (.leaf o k l h t) = .agg [.int .i64 o, .int .i64 k, .int .i64 l, .int .i64 h, .str t, .tree []] := rfl
theorem encFlt_one (a : Flt) : encFlt (.one a) = .agg [.int .i64 7, .int .i64 0, .int .i64 0, .int .i64 0, .str [], .tree [encFlt a]] := rfl
theorem encFlt_two (o : Int) (a b : Flt) : encFlt (.two o a b) = .agg [.int .i64 o, .int .i64 0, .int .i64 0, .int .i64 0, .str [], .tree [encFlt a, encFlt b]] := rfl
/-- Each operation has as many parts as it is of. -/
def Flt.ok : Flt → Prop
  | .leaf o _ _ _ _ => 0 ≤ o ∧ o ≤ 4
  | .one a => a.ok
  | .two o a b => (o = 5 ∨ o = 6) ∧ a.ok ∧ b.ok
def Flt.short : Flt → Prop
  | .leaf _ _ _ _ t => t.length ≤ 100000
  | .one a => a.short
  | .two _ a b => a.short ∧ b.short
def Flt.deep : Flt → Nat
  | .leaf _ _ _ _ _ => 1
  | .one a => 1 + a.deep
  | .two _ a b => 1 + max a.deep b.deep
theorem Flt.deep_eq (f : Flt) : f.deep = 1 + (f.args.map Flt.deep).foldl max 0 := by
  cases f <;> simp [Flt.deep, Flt.args]
def begins (s front : List UInt8) : Bool := decide (front.length ≤ s.length) && decide (s.take front.length = front)
def Flt.lets (v : Version) : Flt → Bool
  | .leaf o k l h t =>
    if o = 1 then true else if o = 2 ∨ o = 3 then (match attrOf v.Attrs k with | some n => decide (l ≤ n ∧ n ≤ h) | none => false)
    else if o = 4 then begins v.Tag t else false
  | .one a => !a.lets v
  | .two o a b => if o = 5 then a.lets v && b.lets v else a.lets v || b.lets v
def Flt.none : Flt := .leaf 0 0 0 0 []
structure Word where
  Kind : Int
  S : List UInt8
  N : Int
  At : Int
  deriving DecidableEq
def encWord (w : Word) : AV := .agg [.int .i64 w.Kind, .str w.S, .int .i64 w.N, .int .i64 w.At]
/-- What reads words. -/
structure Rd where
  l : List Word
  at_ : Nat
  end_ : Int
  bad : Bool
  pos : Int
def encRd (r : Rd) : AV := .agg [.tree (r.l.map encWord), .int .i64 r.at_, .int .i64 r.end_, .bool r.bad, .int .i64 r.pos]
/-- What reads bytes. -/
structure Br where
  B : List UInt8
  Bad : Bool
def encBr (r : Br) : AV := .agg [.tree (r.B.map encB), .bool r.Bad]
/-- Versions in order of things. -/
def insV : List Version → Version → List Version
  | [], v => [v]
  | x :: r, v => if v.Item ≤ x.Item then v :: (x :: r).filter (fun y => decide (y.Item ≠ v.Item)) else x :: insV r v
def putV (l : List Version) (v : Version) : List Version :=
  match findV l v.Item with
  | some w => if 0 < w.S.cmp v.S then l else insV l v
  | none => insV l v
def netSend (l : List Gram) (g : Gram) : List Gram := if 20 ≤ l.length then l else l ++ [g]
def netComes (l : List Gram) (i : Int) : List Gram × Gram × Bool := if 0 ≤ i ∧ i < l.length then (l.eraseIdx i.toNat, l.getD i.toNat ⟨0, 0, [], false⟩, true) else (l, ⟨0, 0, [], false⟩, false)
def netTwice (l : List Gram) (i : Int) : List Gram := if h : 0 ≤ i ∧ i < l.length then netSend l (l[i.toNat]) else l
def turnB (b : List UInt8) (to : Int) : List UInt8 := b.set ((to / 256) % b.length).toNat ((b.getD ((to / 256) % b.length).toNat 0) ^^^ UInt8.ofNat (to % 256).toNat)
def netTurned (l : List Gram) (i to : Int) : List Gram × Bool :=
  if h : 0 ≤ i ∧ i < l.length then
    let g := l[i.toNat]
    if g.Turned then (l, false)
    else if g.B = [] ∨ to < 0 ∨ to % 256 = 0 then (l, true)
    else (l.set i.toNat { g with B := turnB g.B to, Turned := true }, true)
  else (l, false)
theorem encB_fun : encB = fun c => AV.int .u8 c.toNat := rfl
theorem edge_eq (e : Edge) (a b : Int) : decide (e = ⟨a, b⟩) = decide (e.A = a ∧ e.B = b) := by cases e; simp
/-- A byte of a number. -/
def u8w (n : Int) : UInt8 := UInt8.ofNat (n % 256).toNat
theorem u8w_eq (n : Int) : IntKind.u8.wrap n = ((u8w n).toNat : Int) := by
  unfold u8w
  simp only [IntKind.wrap, IntKind.bits, IntKind.signed]
  simp
  omega
/-- A number's bytes, least first. -/
def numB (v : Nat) : List UInt8 := if 128 ≤ v then UInt8.ofNat (v % 128 + 128) :: numB (v / 128) else [UInt8.ofNat v]
def sumBit (c : Nat) (bit : Nat) : Nat := if c / 32768 % 2 ≠ bit then (c * 2 % 65536) ^^^ 0x1021 else c * 2 % 65536
def sumByte (c : Nat) (x : UInt8) : Nat := (List.range 8).foldl (fun c k => sumBit c (x.toNat / 2 ^ (7 - k) % 2)) c
def sumB (b : List UInt8) : Nat := b.foldl sumByte 65535
theorem numB_len : ∀ v : Nat, v ≤ 1000000000 → (numB v).length ≤ 5 := by
  intro v hv
  unfold numB; split
  · unfold numB; split
    · unfold numB; split
      · unfold numB; split
        · unfold numB; split
          · omega
          · simp
        · simp
      · simp
    · simp
  · simp
theorem numB_big {v : Nat} (h : 128 ≤ v) : numB v = UInt8.ofNat (v % 128 + 128) :: numB (v / 128) := by rw [numB, if_pos h]
theorem numB_small {v : Nat} (h : ¬ 128 ≤ v) : numB v = [UInt8.ofNat v] := by rw [numB, if_neg h]
end Go.Ab
