/- The program's data, in plain Lean, and how the runner writes them; small helps. -/
import Derived.Test.YtmkkhaonakdgpaaDoorAbPrj
import Derived.Laws.BitsLemmas
namespace Go.Ab
open Go
theorem wI64 {n : Int} (h0 : -9223372036854775808 ≤ n) (h1 : n ≤ 9223372036854775807) : IntKind.i64.wrap n = n := by rw [IntKind.wrap_i64]; omega
theorem wU8 {n : Int} (h0 : 0 ≤ n) (h1 : n ≤ 255) : IntKind.u8.wrap n = n := by
  simp only [IntKind.wrap, IntKind.bits, IntKind.signed]
  simp
  omega
theorem wU64 {n : Int} (h0 : 0 ≤ n) (h1 : n ≤ 18446744073709551615) : IntKind.u64.wrap n = n := by
  simp only [IntKind.wrap, IntKind.bits, IntKind.signed]
  simp
  omega
theorem icLt (n m : Nat) : ((n : Int) < (no_index (OfNat.ofNat m) : Int)) ↔ n < OfNat.ofNat m := by exact Int.ofNat_lt
theorem icLe (n m : Nat) : ((n : Int) ≤ (no_index (OfNat.ofNat m) : Int)) ↔ n ≤ OfNat.ofNat m := by exact Int.ofNat_le
theorem ciLt (n m : Nat) : ((no_index (OfNat.ofNat m) : Int) < (n : Int)) ↔ OfNat.ofNat m < n := by exact Int.ofNat_lt
theorem ciLe (n m : Nat) : ((no_index (OfNat.ofNat m) : Int) ≤ (n : Int)) ↔ OfNat.ofNat m ≤ n := by exact Int.ofNat_le
theorem icEq (n m : Nat) : ((n : Int) = (no_index (OfNat.ofNat m) : Int)) ↔ n = OfNat.ofNat m := by exact Int.ofNat_inj
@[ext] structure Stamp where
  L : Int
  R : Int
  N : Int
  deriving DecidableEq
@[ext] structure Attr where
  Key : Int
  Val : Int
  deriving DecidableEq
@[ext] structure Version where
  Item : Int
  S : Stamp
  Dead : Bool
  Attrs : List Attr
  Tag : List UInt8
  Body : List UInt8
  deriving DecidableEq
@[ext] structure Head where
  Item : Int
  S : Stamp
  deriving DecidableEq
@[ext] structure View where
  R : Int
  Rev : Int
  Filter : List UInt8
  Seen : List Head
  Epochs : List Int
  deriving DecidableEq
structure Repl where
  ID : Int
  Size : Int
  L : Int
  N : Int
  Quota : Int
  Held : List Version
  Views : List View
  deriving DecidableEq
structure Gossip where
  From : Int
  To : Int
  Views : List View
  Batch : List Version
  deriving DecidableEq
structure Gram where
  From : Int
  To : Int
  B : List UInt8
  Turned : Bool
  deriving DecidableEq
structure Edge where
  A : Int
  B : Int
  deriving DecidableEq
structure Step where
  Kind : Int
  R : Int
  To : Int
  I : Int
  Item : Int
  Attrs : List Attr
  Tag : List UInt8
  Text : List UInt8
  deriving DecidableEq
structure Mesh where
  Size : Int
  Batch : Int
  Edges : List Edge
  Repls : List Repl
  Fly : List Gram
  Issued : List Version
  deriving DecidableEq
structure Q4 where
  a : UInt8
  b : UInt8
  c : UInt8
  d : UInt8
def icmp (a b : Int) : Int := if a < b then -1 else if b < a then 1 else 0
def Stamp.cmp (a b : Stamp) : Int := if icmp a.L b.L ≠ 0 then icmp a.L b.L else if icmp a.R b.R ≠ 0 then icmp a.R b.R else icmp a.N b.N
/-- Numbers from which choices are read: all, how many were read. -/
structure Picks where
  l : List UInt8
  n : Nat
  deriving DecidableEq
def Picks.num (p : Picks) (m : Int) : Int × Picks :=
  if p.l.length ≤ p.n ∨ m < 1 then (0, p) else (((p.l.getD p.n 0).toNat : Int) % m, ⟨p.l, p.n + 1⟩)
def tags : List (List UInt8) := [[], [97], [97, 98], [97, 98, 99], [98], [98, 97]]
def Picks.tag (p : Picks) : List UInt8 × Picks := (tags.getD (p.num 6).1.toNat [], (p.num 6).2)
def Picks.stamp (p : Picks) : Stamp × Picks :=
  let a := p.num 9
  let b := a.2.num 3
  let c := b.2.num (1 + a.1)
  (⟨1 + a.1, 1 + b.1, 1 + c.1⟩, c.2)
def attrVals : List Int := [0, 1, 5, 7, 50, 99]
/-- Attributes from key k on, behind those of l. -/
def Picks.attrsAt : Nat → Picks → Nat → List Attr → List Attr × Picks
  | 0, p, _, l => (l, p)
  | f + 1, p, k, l =>
    if k < 4 ∧ l.length < 3 then
      let a := p.num 2
      if a.1 = 0 then
        let b := a.2.num 6
        attrsAt f b.2 (k + 1) (l ++ [⟨k, attrVals.getD b.1.toNat 0⟩])
      else attrsAt f a.2 (k + 1) l
    else (l, p)
def Picks.attrs (p : Picks) : List Attr × Picks := p.attrsAt 5 0 []
def bodies : List (List UInt8) := [[], [120], [98, 111, 100, 121], [97, 32, 98, 111, 100, 121, 32, 111, 102, 32, 49, 50]]
def Picks.version (p : Picks) : Version × Picks :=
  let i := p.num 6
  let s := i.2.stamp
  let a := s.2.attrs
  let t := a.2.tag
  let d := t.2.num 6
  if d.1 = 1 then (⟨1 + i.1, s.1, true, a.1, t.1, []⟩, d.2)
  else
    let b := d.2.num 4
    (⟨1 + i.1, s.1, false, a.1, t.1, bodies.getD b.1.toNat []⟩, b.2)
def encI (n : Int) : AV := .int .i64 n
def encS (s : List UInt8) : AV := .str s
def encB (c : UInt8) : AV := .int .u8 c.toNat
def encQ4 (q : Q4) : AV := .agg [.int .u8 q.a.toNat, .int .u8 q.b.toNat, .int .u8 q.c.toNat, .int .u8 q.d.toNat]
def encStamp (s : Stamp) : AV := .agg [.int .i64 s.L, .int .i64 s.R, .int .i64 s.N]
def encAttr (a : Attr) : AV := .agg [.int .i64 a.Key, .int .i64 a.Val]
def encVersion (v : Version) : AV := .agg [.int .i64 v.Item, .int .i64 v.S.L, .int .i64 v.S.R, .int .i64 v.S.N, .bool v.Dead, .tree (v.Attrs.map encAttr), .str v.Tag, .str v.Body]
def encHead (h : Head) : AV := .agg [.int .i64 h.Item, .int .i64 h.S.L, .int .i64 h.S.R, .int .i64 h.S.N]
def encView (v : View) : AV := .agg [.int .i64 v.R, .int .i64 v.Rev, .str v.Filter, .tree (v.Seen.map encHead), .tree (v.Epochs.map encI)]
def encRepl (r : Repl) : AV := .agg [.int .i64 r.ID, .int .i64 r.Size, .int .i64 r.L, .int .i64 r.N, .int .i64 r.Quota, .tree (r.Held.map encVersion), .tree (r.Views.map encView)]
def encGossip (g : Gossip) : AV := .agg [.int .i64 g.From, .int .i64 g.To, .tree (g.Views.map encView), .tree (g.Batch.map encVersion)]
def encGram (g : Gram) : AV := .agg [.int .i64 g.From, .int .i64 g.To, .str g.B, .bool g.Turned]
def encEdge (e : Edge) : AV := .agg [.int .i64 e.A, .int .i64 e.B]
def encStep (s : Step) : AV := .agg [.int .i64 s.Kind, .int .i64 s.R, .int .i64 s.To, .int .i64 s.I, .int .i64 s.Item, .tree (s.Attrs.map encAttr), .str s.Tag, .str s.Text]
def encMesh (m : Mesh) : AV := .agg [.int .i64 m.Size, .int .i64 m.Batch, .tree (m.Edges.map encEdge), .tree (m.Repls.map encRepl), .tree (m.Fly.map encGram), .tree (m.Issued.map encVersion)]
def encPicks (p : Picks) : AV := .agg [.tree (p.l.map encB), .int .i64 p.n]
theorem xorU8 (a : UInt8) (n : Int) (h0 : 0 ≤ n) (h1 : n < 256) : IntKind.u8.wrap ↑(BitVec.ofInt 8 ↑a.toNat ^^^ BitVec.ofInt 8 n).toNat = ↑(a ^^^ UInt8.ofNat n.toNat).toNat := by
  have hb : (BitVec.ofInt 8 ↑a.toNat ^^^ BitVec.ofInt 8 n).toNat < 256 := BitVec.isLt _
  rw [wU8 (by omega) (by omega)]
  congr 1
  rw [UInt8.toNat_xor, BitVec.toNat_xor]
  congr 1
  · simp
  · obtain ⟨m, rfl⟩ := Int.eq_ofNat_of_zero_le h0
    simp
theorem xorN (a : UInt8) (n : Int) (h0 : 0 ≤ n) (h1 : n < 256) : (BitVec.ofInt 8 ↑a.toNat ^^^ BitVec.ofInt 8 n).toNat = (a ^^^ UInt8.ofNat n.toNat).toNat := by
  have h := xorU8 a n h0 h1
  have hb : (BitVec.ofInt 8 ↑a.toNat ^^^ BitVec.ofInt 8 n).toNat < 256 := BitVec.isLt _
  rw [wU8 (by omega) (by omega)] at h
  omega
theorem Picks.num_l (p : Picks) (m : Int) : (p.num m).2.l = p.l := by unfold Picks.num; split <;> rfl
theorem Picks.num_lo (p : Picks) (m : Int) : 0 ≤ (p.num m).1 := by
  unfold Picks.num; split
  · simp
  · exact Int.emod_nonneg _ (by omega)
theorem Picks.num_hi (p : Picks) {m : Int} (hm : 1 ≤ m) : (p.num m).1 < m := by
  unfold Picks.num; split
  · simp; omega
  · exact Int.emod_lt_of_pos _ (by omega)
theorem Picks.num_eq (p : Picks) {m : Int} (hm : 1 ≤ m) : 0 ≤ (p.num m).1 ∧ (p.num m).1 < m ∧ (p.num m).2.l = p.l := ⟨p.num_lo m, p.num_hi hm, p.num_l m⟩
theorem Picks.stamp_l (p : Picks) : p.stamp.2.l = p.l := by simp [Picks.stamp, Picks.num_l]
theorem Picks.tag_l (p : Picks) : p.tag.2.l = p.l := by simp [Picks.tag, Picks.num_l]
theorem Picks.attrsAt_l : ∀ (f : Nat) (p : Picks) (k : Nat) (l : List Attr), (p.attrsAt f k l).2.l = p.l
  | 0, p, k, l => rfl
  | f + 1, p, k, l => by
    simp only [Picks.attrsAt]
    split
    · split
      · rw [Picks.attrsAt_l, Picks.num_l, Picks.num_l]
      · rw [Picks.attrsAt_l, Picks.num_l]
    · rfl
theorem Picks.attrs_l (p : Picks) : p.attrs.2.l = p.l := p.attrsAt_l 5 0 []
theorem Picks.version_l (p : Picks) : p.version.2.l = p.l := by
  simp only [Picks.version]
  split <;> simp only [Picks.num_l, Picks.tag_l, Picks.attrs_l, Picks.stamp_l]
theorem icmp_neg (a b : Int) : icmp a b = - icmp b a := by unfold icmp; split <;> split <;> first | omega | (split <;> omega)
theorem icmp_zero (a b : Int) : icmp a b = 0 ↔ a = b := by
  unfold icmp; split
  · omega
  · split <;> omega
theorem icmp_pos (a b : Int) : 0 < icmp a b ↔ b < a := by
  unfold icmp; split
  · omega
  · split <;> omega
theorem cmp_neg (a b : Stamp) : a.cmp b = - b.cmp a := by
  unfold Stamp.cmp
  have h1 := icmp_neg a.L b.L; have h2 := icmp_neg a.R b.R; have h3 := icmp_neg a.N b.N
  split <;> split <;> first | omega | (split <;> split <;> omega) | (split <;> omega)
theorem cmp_zero (a b : Stamp) : a.cmp b = 0 ↔ a = b := by
  unfold Stamp.cmp
  have h1 := icmp_zero a.L b.L; have h2 := icmp_zero a.R b.R; have h3 := icmp_zero a.N b.N
  rw [Stamp.ext_iff]
  split
  · constructor
    · intro h; omega
    · intro h; omega
  · split
    · constructor
      · intro h; omega
      · intro h; omega
    · constructor
      · intro h; omega
      · intro h; omega
/-- Stamps in order: by time, replica, number. -/
def Stamp.lt (a b : Stamp) : Prop := a.L < b.L ∨ a.L = b.L ∧ (a.R < b.R ∨ a.R = b.R ∧ a.N < b.N)
theorem cmp_pos (a b : Stamp) : 0 < a.cmp b ↔ b.lt a := by
  unfold Stamp.cmp Stamp.lt
  have h1 := icmp_zero a.L b.L; have h2 := icmp_zero a.R b.R
  have k1 := icmp_pos a.L b.L; have k2 := icmp_pos a.R b.R; have k3 := icmp_pos a.N b.N
  split
  · omega
  · split <;> omega
theorem Stamp.lt_trans {a b c : Stamp} (h : a.lt b) (h' : b.lt c) : a.lt c := by unfold Stamp.lt at *; omega
theorem cmp_trans (a b c : Stamp) (h : 0 < a.cmp b) (h' : 0 < b.cmp c) : 0 < a.cmp c := by
  rw [cmp_pos] at *; exact Stamp.lt_trans h' h
theorem Picks.attrsAt_len : ∀ (f : Nat) (p : Picks) (k : Nat) (l : List Attr), l.length ≤ 3 → (p.attrsAt f k l).1.length ≤ 3
  | 0, p, k, l, h => h
  | f + 1, p, k, l, h => by
    simp only [Picks.attrsAt]
    split
    · rename_i hc
      split
      · exact Picks.attrsAt_len f _ _ _ (by simp; omega)
      · exact Picks.attrsAt_len f _ _ _ h
    · exact h
theorem Picks.tag_len (p : Picks) : p.tag.1.length ≤ 3 := by
  have h0 := p.num_lo 6; have h1 := p.num_hi (m := 6) (by omega)
  show (tags.getD (p.num 6).1.toNat []).length ≤ 3
  unfold tags
  generalize (p.num 6).1 = i at *
  have : i = 0 ∨ i = 1 ∨ i = 2 ∨ i = 3 ∨ i = 4 ∨ i = 5 := by omega
  rcases this with rfl | rfl | rfl | rfl | rfl | rfl <;> decide
theorem Picks.body_len (i : Nat) : (bodies.getD i []).length ≤ 12 := by
  unfold bodies
  match i with
  | 0 | 1 | 2 | 3 => decide
  | n + 4 => simp
/-- What a version of numbers is like. -/
structure VersLike (v : Version) : Prop where
  i0 : 1 ≤ v.Item
  i1 : v.Item ≤ 6
  l0 : 1 ≤ v.S.L
  l1 : v.S.L ≤ 9
  r0 : 1 ≤ v.S.R
  r1 : v.S.R ≤ 3
  n0 : 1 ≤ v.S.N
  n1 : v.S.N ≤ v.S.L
  attrs : v.Attrs.length ≤ 3
  tag : v.Tag.length ≤ 3
  body : v.Body.length ≤ 12
theorem Picks.stamp_like (p : Picks) : 1 ≤ p.stamp.1.L ∧ p.stamp.1.L ≤ 9 ∧ 1 ≤ p.stamp.1.R ∧ p.stamp.1.R ≤ 3 ∧ 1 ≤ p.stamp.1.N ∧ p.stamp.1.N ≤ p.stamp.1.L := by
  have b0 := p.num_lo 9; have b1 := p.num_hi (m := 9) (by omega)
  have c0 := (p.num 9).2.num_lo 3; have c1 := (p.num 9).2.num_hi (m := 3) (by omega)
  have d0 := ((p.num 9).2.num 3).2.num_lo (1 + (p.num 9).1); have d1 := ((p.num 9).2.num 3).2.num_hi (m := 1 + (p.num 9).1) (by omega)
  simp only [Picks.stamp]
  omega
theorem Picks.attrs_len (p : Picks) : p.attrs.1.length ≤ 3 := Picks.attrsAt_len _ _ _ _ (by simp)
theorem Picks.version_like (p : Picks) : VersLike p.version.1 := by
  have a0 := p.num_lo 6; have a1 := p.num_hi (m := 6) (by omega)
  simp only [Picks.version]
  generalize p.num 6 = i at *
  have hs := Picks.stamp_like i.2
  generalize i.2.stamp = s at *
  have ha := s.2.attrs_len
  generalize s.2.attrs = a at *
  have ht := a.2.tag_len
  generalize a.2.tag = t at *
  split
  · constructor <;> dsimp only <;> first | omega | simp
  · have hb := Picks.body_len ((t.2.num 6).2.num 4).1.toNat
    constructor <;> dsimp only <;> first | omega | exact hb
theorem take_succ {T : Type} {l : List T} {k : Nat} {x : T} (h : l[k]? = some x) : l.take (k + 1) = l.take k ++ [x] := by
  rw [List.take_add_one, h]; rfl
theorem drop_at {T : Type} {l : List T} {k : Nat} {x : T} (h : l[k]? = some x) : l.drop k = x :: l.drop (k + 1) := by
  obtain ⟨hk, rfl⟩ := List.getElem?_eq_some_iff.1 h
  exact List.drop_eq_getElem_cons hk
end Go.Ab
