/- The program's data, in plain Lean, and how the runner writes them; small helps. -/
import Derived.Test.YtmppanboolejjaaAbPrj
import Derived.Laws.BitsLemmas
namespace Go.Ab
open Go
theorem wI64 {n : Int} (h0 : -9223372036854775808 ≤ n) (h1 : n ≤ 9223372036854775807) : IntKind.i64.wrap n = n := by rw [IntKind.wrap_i64]; omega
theorem wU8 {n : Int} (h0 : 0 ≤ n) (h1 : n ≤ 255) : IntKind.u8.wrap n = n := by
  simp only [IntKind.wrap, IntKind.bits, IntKind.signed]
  simp
  omega
structure Stamp where
  L : Int
  R : Int
  N : Int
  deriving DecidableEq
structure Attr where
  Key : Int
  Val : Int
  deriving DecidableEq
structure Version where
  Item : Int
  S : Stamp
  Dead : Bool
  Attrs : List Attr
  Tag : List UInt8
  Body : List UInt8
  deriving DecidableEq
structure Head where
  Item : Int
  S : Stamp
  deriving DecidableEq
structure View where
  R : Int
  Rev : Int
  Filter : List UInt8
  Seen : List Head
  Epochs : List Int
  deriving DecidableEq
structure Repl where
  ID : Int
  Size : Int
  L : Int
  N : Int
  Quota : Int
  Held : List Version
  Views : List View
  deriving DecidableEq
structure Gossip where
  From : Int
  To : Int
  Views : List View
  Batch : List Version
  deriving DecidableEq
structure Gram where
  From : Int
  To : Int
  B : List UInt8
  Turned : Bool
  deriving DecidableEq
structure Edge where
  A : Int
  B : Int
  deriving DecidableEq
structure Step where
  Kind : Int
  R : Int
  To : Int
  I : Int
  Item : Int
  Attrs : List Attr
  Tag : List UInt8
  Text : List UInt8
  deriving DecidableEq
structure Mesh where
  Size : Int
  Batch : Int
  Edges : List Edge
  Repls : List Repl
  Fly : List Gram
  Issued : List Version
  deriving DecidableEq
structure Q4 where
  a : UInt8
  b : UInt8
  c : UInt8
  d : UInt8
def encI (n : Int) : AV := .int .i64 n
def encS (s : List UInt8) : AV := .str s
def encB (c : UInt8) : AV := .int .u8 c.toNat
def encQ4 (q : Q4) : AV := .agg [.int .u8 q.a.toNat, .int .u8 q.b.toNat, .int .u8 q.c.toNat, .int .u8 q.d.toNat]
def encStamp (s : Stamp) : AV := .agg [.int .i64 s.L, .int .i64 s.R, .int .i64 s.N]
def encAttr (a : Attr) : AV := .agg [.int .i64 a.Key, .int .i64 a.Val]
def encVersion (v : Version) : AV := .agg [.int .i64 v.Item, .int .i64 v.S.L, .int .i64 v.S.R, .int .i64 v.S.N, .bool v.Dead, .tree (v.Attrs.map encAttr), .str v.Tag, .str v.Body]
def encHead (h : Head) : AV := .agg [.int .i64 h.Item, .int .i64 h.S.L, .int .i64 h.S.R, .int .i64 h.S.N]
def encView (v : View) : AV := .agg [.int .i64 v.R, .int .i64 v.Rev, .str v.Filter, .tree (v.Seen.map encHead), .tree (v.Epochs.map encI)]
def encRepl (r : Repl) : AV := .agg [.int .i64 r.ID, .int .i64 r.Size, .int .i64 r.L, .int .i64 r.N, .int .i64 r.Quota, .tree (r.Held.map encVersion), .tree (r.Views.map encView)]
def encGossip (g : Gossip) : AV := .agg [.int .i64 g.From, .int .i64 g.To, .tree (g.Views.map encView), .tree (g.Batch.map encVersion)]
def encGram (g : Gram) : AV := .agg [.int .i64 g.From, .int .i64 g.To, .str g.B, .bool g.Turned]
def encEdge (e : Edge) : AV := .agg [.int .i64 e.A, .int .i64 e.B]
def encStep (s : Step) : AV := .agg [.int .i64 s.Kind, .int .i64 s.R, .int .i64 s.To, .int .i64 s.I, .int .i64 s.Item, .tree (s.Attrs.map encAttr), .str s.Tag, .str s.Text]
def encMesh (m : Mesh) : AV := .agg [.int .i64 m.Size, .int .i64 m.Batch, .tree (m.Edges.map encEdge), .tree (m.Repls.map encRepl), .tree (m.Fly.map encGram), .tree (m.Issued.map encVersion)]
theorem xorU8 (a : UInt8) (n : Int) (h0 : 0 ≤ n) (h1 : n < 256) : IntKind.u8.wrap ↑(BitVec.ofInt 8 ↑a.toNat ^^^ BitVec.ofInt 8 n).toNat = ↑(a ^^^ UInt8.ofNat n.toNat).toNat := by
  have hb : (BitVec.ofInt 8 ↑a.toNat ^^^ BitVec.ofInt 8 n).toNat < 256 := BitVec.isLt _
  rw [wU8 (by omega) (by omega)]
  congr 1
  rw [UInt8.toNat_xor, BitVec.toNat_xor]
  congr 1
  · simp
  · obtain ⟨m, rfl⟩ := Int.eq_ofNat_of_zero_le h0
    simp
theorem xorN (a : UInt8) (n : Int) (h0 : 0 ≤ n) (h1 : n < 256) : (BitVec.ofInt 8 ↑a.toNat ^^^ BitVec.ofInt 8 n).toNat = (a ^^^ UInt8.ofNat n.toNat).toNat := by
  have h := xorU8 a n h0 h1
  have hb : (BitVec.ofInt 8 ↑a.toNat ^^^ BitVec.ofInt 8 n).toNat < 256 := BitVec.isLt _
  rw [wU8 (by omega) (by omega)] at h
  omega
theorem take_succ {T : Type} {l : List T} {k : Nat} {x : T} (h : l[k]? = some x) : l.take (k + 1) = l.take k ++ [x] := by
  rw [List.take_add_one, h]; rfl
theorem drop_at {T : Type} {l : List T} {k : Nat} {x : T} (h : l[k]? = some x) : l.drop k = x :: l.drop (k + 1) := by
  obtain ⟨hk, rfl⟩ := List.getElem?_eq_some_iff.1 h
  exact List.drop_eq_getElem_cons hk
end Go.Ab
