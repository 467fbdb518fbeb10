/- Over how many edges: plain Lean. -/
import Derived.Test.YtmkkhaonakdgpaaDoorAbRepl
namespace Go.Ab
open Go
def costOf (x : Int) : Nat := if x < 0 then 10 else x.toNat
def cost (l : List Int) : Nat := (l.map costOf).sum
theorem cost_set : ∀ {l : List Int} {b : Nat} {y : Int} (z : Int), l[b]? = some y → cost (l.set b z) + costOf y = cost l + costOf z
  | [], b, y, z, h => by simp at h
  | x :: l, 0, y, z, h => by
    simp only [List.getElem?_cons_zero, Option.some.injEq] at h
    subst h
    simp only [cost, List.set_cons_zero, List.map_cons, List.sum_cons]; omega
  | x :: l, b + 1, y, z, h => by
    have := cost_set (l := l) (b := b) z (by simpa using h)
    simp only [cost, List.set_cons_succ, List.map_cons, List.sum_cons] at *; omega
def cnt (l : List Int) : Nat := l.countP fun x => decide (0 ≤ x)
theorem cnt_le (l : List Int) : cnt l ≤ l.length := List.countP_le_length
theorem cnt_set : ∀ {l : List Int} {b : Nat} {y : Int} (z : Int), l[b]? = some y → 0 ≤ z → cnt (l.set b z) = cnt l + (if y < 0 then 1 else 0)
  | [], b, y, z, h, _ => by simp at h
  | x :: l, 0, y, z, h, hz => by
    simp only [List.getElem?_cons_zero, Option.some.injEq] at h
    subst h
    simp only [cnt, List.set_cons_zero, List.countP_cons, decide_eq_true_eq, hz, if_true]
    split <;> split <;> omega
  | x :: l, b + 1, y, z, h, hz => by
    have := cnt_set (l := l) (b := b) z (by simpa using h) hz
    simp only [cnt, List.set_cons_succ, List.countP_cons] at *; omega
/-- Each number is below as many as there are that are known. -/
def farOk (l : List Int) : Prop := ∀ x ∈ l, -1 ≤ x ∧ x < cnt l
theorem far_set {l : List Int} {a b : Nat} {x y : Int} (h : farOk l) (ha : l[a]? = some x) (hb : l[b]? = some y) (hx : 0 ≤ x) (hy : y < 0 ∨ x + 1 < y) (hl : l.length ≤ 5) : farOk (l.set b (x + 1)) ∧ cost (l.set b (x + 1)) < cost l := by
  have h1 := h x (List.mem_of_getElem? ha)
  have h2 := h y (List.mem_of_getElem? hb)
  have hc := cnt_set (x + 1) hb (by omega)
  have hk := cost_set (x + 1) hb
  have hn := cnt_le l
  constructor
  · intro z hz
    rcases List.mem_or_eq_of_mem_set hz with hz | rfl
    · have := h z hz
      split at hc <;> omega
    · split at hc <;> omega
  · unfold costOf at hk
    split at hk <;> split at hk <;> omega
theorem far_cost {l : List Int} {a b m c : Nat} {x y : Int} (h : farOk l) (ha : l[a]? = some x) (hb : l[b]? = some y) (hx : 0 ≤ x) (hy : y < 0 ∨ x + 1 < y) (hl : l.length ≤ 5) (hc : cost l + m ≤ c) : cost (l.set b (x + 1)) + 1 ≤ c := by
  have := (far_set h ha hb hx hy hl).2
  omega
/-- The first so many are not known, the others nought. -/
def farFill (size i : Nat) : List Int := List.replicate i (-1) ++ List.replicate (size - i) 0
theorem farFill_len {size i : Nat} (h : i ≤ size) : (farFill size i).length = size := by simp [farFill]; omega
theorem farFill_set {size i : Nat} (h : i < size) : (farFill size i).set i (-1) = farFill size (i + 1) := by
  unfold farFill
  obtain ⟨j, hj⟩ : ∃ j, size - i = j + 1 := ⟨size - i - 1, by omega⟩
  rw [List.set_append_right _ _ (by simp), hj, show size - (i + 1) = j by omega]
  simp only [List.length_replicate, Nat.sub_self, List.replicate_succ, List.set_cons_zero]
  rw [← List.replicate_succ, List.replicate_succ', List.append_assoc]; rfl
theorem farFill_all (size : Nat) : farFill size size = List.replicate size (-1) := by simp [farFill]
theorem far_start {size : Nat} (h : 1 ≤ size) : farOk ((List.replicate size (-1)).set 0 0) := by
  obtain ⟨j, rfl⟩ : ∃ j, size = j + 1 := ⟨size - 1, by omega⟩
  intro x hx
  have hc : 1 ≤ cnt ((List.replicate (j + 1) (-1 : Int)).set 0 0) := by
    simp [cnt, List.replicate_succ]
  rcases List.mem_or_eq_of_mem_set hx with hx | rfl
  · rw [List.mem_replicate] at hx; omega
  · omega
end Go.Ab
