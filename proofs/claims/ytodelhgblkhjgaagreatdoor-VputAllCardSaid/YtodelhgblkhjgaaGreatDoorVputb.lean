/- Package vput: a version as bytes, as plain Lean; the law. -/
import Derived.Test.YtodelhgblkhjgaaGreatDoorVputa
namespace Go.Ab.Tryz
open Go
set_option maxRecDepth 100000
set_option maxHeartbeats 4000000
/-- The numbers of a version, with its first so many attributes. -/
def numsOf (v : Version) (d : Int) (k : Nat) : List Int := [v.Item, v.S.L, v.S.R, v.S.N, d, v.Attrs.length] ++ (v.Attrs.take k).flatMap fun a => [a.Key, a.Val]
theorem numsOf_succ {v : Version} {d : Int} {k : Nat} {a : Attr} (h : v.Attrs[k]? = some a) : numsOf v d (k + 1) = numsOf v d k ++ [a.Key, a.Val] := by
  unfold numsOf; rw [take_succ h, List.flatMap_append]; simp
theorem numsOf_len (v : Version) (d : Int) (k : Nat) : (numsOf v d k).length ≤ 6 + 2 * k := by
  have : ∀ l : List Attr, (l.flatMap fun a => [a.Key, a.Val]).length = 2 * l.length := by
    intro l; induction l with
    | nil => rfl
    | cons a l ih => simp only [List.flatMap_cons, List.length_append, ih, List.length_cons, List.length_nil]; omega
  simp only [numsOf, List.length_append, this, List.length_cons, List.length_nil, List.length_take]
  omega
theorem numsOf_in {v : Version} {d : Int} {k : Nat} (f : v.Fit) (h0 : 0 ≤ d) (h1 : d ≤ 1) : ∀ n ∈ numsOf v d k, 0 ≤ n ∧ n ≤ 5000 := by
  intro n hn
  have a1 := f.i0; have a2 := f.i1; have a3 := f.l0; have a4 := f.l1; have a5 := f.r0; have a6 := f.r1; have a7 := f.n0; have a8 := f.n1; have a9 := f.al
  rcases List.mem_append.1 hn with hn | hn
  · simp only [List.mem_cons, List.not_mem_nil, or_false] at hn
    rcases hn with rfl | rfl | rfl | rfl | rfl | rfl <;> omega
  · obtain ⟨a, ha, hn⟩ := List.mem_flatMap.1 hn
    have := f.av a (List.mem_of_mem_take ha)
    simp only [List.mem_cons, List.not_mem_nil, or_false] at hn
    rcases hn with rfl | rfl <;> omega
def numsB (l : List Int) : List UInt8 := l.flatMap fun n => numB n.toNat
theorem numsB_succ {l : List Int} {k : Nat} {n : Int} (h : l[k]? = some n) : numsB (l.take (k + 1)) = numsB (l.take k) ++ numB n.toNat := by
  unfold numsB; rw [take_succ h, List.flatMap_append]; simp
theorem numsB_all (v : Version) (d : Int) (hd : d = if v.Dead then 1 else 0) : numsB (numsOf v d v.Attrs.length) = versB v ++ attrsB v.Attrs := by
  have h1 : d.toNat = v.Dead.toNat := by rw [hd]; cases v.Dead <;> rfl
  have h2 : ∀ l : List Attr, numsB (l.flatMap fun a => [a.Key, a.Val]) = attrsB l := by
    intro l; induction l with
    | nil => rfl
    | cons a l ih => simp only [numsB, attrsB, List.flatMap_cons, List.flatMap_append, List.flatMap_nil] at *; rw [ih]; simp
  have h3 := h2 v.Attrs
  unfold numsB at h3
  simp only [numsB, numsOf, List.flatMap_append, List.take_length, h3, versB]
  simp [h1]
end Go.Ab.Tryz
