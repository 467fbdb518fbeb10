/- Meshes as the document has them: plain Lean. -/
import Derived.Test.YtmkkhaonakdgpaaDoorAbTopo
namespace Go.Ab
open Go
/-- What is small in a replica. -/
abbrev Repl.Sm (r : Repl) : Prop :=
  1 ≤ r.ID ∧ r.ID ≤ r.Views.length ∧ r.Views.length ≤ 1000 ∧ 0 ≤ r.Size ∧ r.Size ≤ 100 ∧ r.Held.length ≤ 100 ∧ (∀ v ∈ r.Held, v.Attrs.length ≤ 100000 ∧ v.Tag.length ≤ 100000) ∧ (∀ v ∈ r.Held, v.Body.length ≤ 100000) ∧
  (∀ w ∈ r.Views, w.Seen.length ≤ 100 ∧ w.Filter.length ≤ 100000 ∧ w.Epochs.length ≤ 100000) ∧ (∀ w ∈ r.Views, w.Seen.length ≤ 100000) ∧ 0 ≤ (ownOf r.ID r.Views).Rev ∧ (ownOf r.ID r.Views).Rev ≤ 1000000000000 ∧
  (ownOf r.ID r.Views).Epochs.length = r.Views.length ∧ (∀ e ∈ (ownOf r.ID r.Views).Epochs, 0 ≤ e ∧ e ≤ 1000000000000) ∧ (ownOf r.ID r.Views).Seen.length ≤ 1000 ∧ (ownOf r.ID r.Views).Filter.length ≤ 100000 ∧ r.Size ≤ r.Views.length ∧ (∃ w ∈ r.Views, 0 < w.Rev)
def wants : List (List UInt8) := [[42], [94, 97], [94, 98], [64, 49, 61, 53], [33, 94, 97], [64, 48, 58, 48, 45, 57], [33, 42], [64, 49, 61, 53, 38, 94, 97], [64, 49, 61, 53, 124, 94, 98], [33, 64, 49, 61, 53]]
def Picks.want (p : Picks) : List UInt8 × Picks := (wants.getD (p.num 10).1.toNat [], (p.num 10).2)
theorem Picks.want_l (p : Picks) : p.want.2.l = p.l := p.num_l 10
theorem Picks.want_len (p : Picks) : p.want.1.length ≤ 80 := by
  have h0 := p.num_lo 10; have h1 := p.num_hi (m := 10) (by omega)
  show (wants.getD (p.num 10).1.toNat []).length ≤ 80
  generalize (p.num 10).1 = i at *
  have : i = 0 ∨ i = 1 ∨ i = 2 ∨ i = 3 ∨ i = 4 ∨ i = 5 ∨ i = 6 ∨ i = 7 ∨ i = 8 ∨ i = 9 := by omega
  rcases this with rfl | rfl | rfl | rfl | rfl | rfl | rfl | rfl | rfl | rfl <;> decide
/-- A step that writes. -/
def Picks.writeOf (p : Picks) (size : Int) : Step × Picks :=
  let r := p.num size
  let i := r.2.num 4
  let k := i.2.num 8
  if k.1 = 0 then (⟨2, 1 + r.1, 0, 0, 1 + i.1, [], [], []⟩, k.2)
  else if k.1 = 1 ∨ k.1 = 2 then (⟨3, 1 + r.1, 0, 0, 0, [], [], k.2.want.1⟩, k.2.want.2)
  else
    let v := k.2.num 2
    let t := v.2.tag
    let x := t.2.num 2
    (⟨1, 1 + r.1, 0, 0, 1 + i.1, [⟨1, if v.1 = 0 then 5 else 6⟩], t.1, if x.1 = 0 then [120] else [121, 121]⟩, x.2)
def Mesh.zero : Mesh := ⟨0, 0, [], [], [], []⟩
abbrev Mesh.with_ (m : Mesh) (r : Repl) : Mesh := { m with Repls := m.Repls.set (r.ID - 1).toNat r }
abbrev Mesh.wrote (m : Mesh) (r : Repl) (v : Version) : Mesh := { m with Repls := m.Repls.set (r.ID - 1).toNat r, Issued := m.Issued ++ [v] }
def newMesh (size : Nat) (edges : List Edge) (batch quota : Int) : Mesh := ⟨size, batch, edges, (List.range size).map fun i => newRepl (i + 1) size quota, [], []⟩
def Mesh.writeR (P : Prs) (m : Mesh) (s : Step) (r : Repl) : Mesh × Int :=
  if s.Kind = 3 then (if (r.setFilter P s.Text).2 = 0 then (m.with_ (r.setFilter P s.Text).1, 0) else (m, (r.setFilter P s.Text).2))
  else if s.Kind = 2 then (if (r.delete s.Item).2.2 = 0 then (m.wrote (r.delete s.Item).1 (r.delete s.Item).2.1, 0) else (m, (r.delete s.Item).2.2))
  else (if (r.put P s.Item s.Attrs s.Tag s.Text).2.2 = 0 then (m.wrote (r.put P s.Item s.Attrs s.Tag s.Text).1 (r.put P s.Item s.Attrs s.Tag s.Text).2.1, 0) else (m, (r.put P s.Item s.Attrs s.Tag s.Text).2.2))
def Mesh.write (P : Prs) (m : Mesh) (s : Step) : Mesh × Int := m.writeR P s (m.Repls.getD (s.R - 1).toNat ⟨0, 0, 0, 0, 0, [], []⟩)
theorem write_at {P : Prs} {m : Mesh} {s : Step} {r : Repl} (h : m.Repls[(s.R - 1).toNat]? = some r) : m.write P s = m.writeR P s r := by
  unfold Mesh.write; rw [List.getD, h]; rfl
theorem setFilter_id (P : Prs) (r : Repl) (t : List UInt8) : (r.setFilter P t).1.ID = r.ID := by
  unfold Repl.setFilter; split
  · split <;> rfl
  · rfl
theorem delete_id (r : Repl) (i : Int) : (r.delete i).1.ID = r.ID := by
  unfold Repl.delete; split
  · rfl
  · split
    · rfl
    · split <;> rfl
theorem put_id (P : Prs) (r : Repl) (i : Int) (a : List Attr) (t b : List UInt8) : (r.put P i a t b).1.ID = r.ID := by
  unfold Repl.put; split
  · split
    · split <;> rfl
    · rfl
  · rfl
theorem takeIn_id (P : Prs) (r : Repl) (g : Gossip) : (r.takeIn P g).ID = r.ID := by
  have hc : ∀ (l : List Version) (f : Flt) (z : Repl × View), (l.foldl (Repl.come f) z).1.ID = z.1.ID := by
    intro l f
    induction l with
    | nil => intro z; rfl
    | cons v l ih =>
      intro z
      rw [List.foldl_cons, ih]
      have : ∀ (x : Repl) (a b c : Repl × View) (p q : Prop) [Decidable p] [Decidable q], a.1.ID = x.ID → b.1.ID = x.ID → c.1.ID = x.ID → (if p then a else if q then b else c).1.ID = x.ID := by
        intro x a b c p q _ _ h1 h2 h3
        split
        · exact h1
        · split
          · exact h2
          · exact h3
      exact this z.1 _ _ _ _ _ rfl rfl rfl
  exact hc g.Batch ((r.merged g).flt P) (r.merged g, (r.merged g).meOf (r.merged g).own)
theorem take_id (P : Prs) (r : Repl) (g : Gossip) : (r.take P g).1.ID = r.ID := by
  unfold Repl.take; split
  · exact takeIn_id P r g
  · rfl
/-- By how much one knows less than another one of its filter: the j'th. -/
def lackOf (a b : List Int) (j : Nat) : Int := if j < a.length ∧ j < b.length then (if 0 > b.getD j 0 - a.getD j 0 then 0 else b.getD j 0 - a.getD j 0) else 0
def lackRow (rs : List Repl) (a : Repl) : Nat → Int
  | 0 => 0
  | j + 1 => lackRow rs a j + (match rs[j]? with | some b => lackOf (ownOf a.ID a.Views).Epochs (ownOf b.ID b.Views).Epochs j | none => 0)
def lackAll (rs : List Repl) : Nat → Int
  | 0 => 0
  | i + 1 => lackAll rs i + (match rs[i]? with | some a => lackRow rs a rs.length | none => 0)
def Mesh.stale (m : Mesh) : Int := lackAll m.Repls m.Repls.length
theorem lack_yes {a b : List Int} {j : Nat} {x y : Int} (ha : a[j]? = some x) (hb : b[j]? = some y) : lackOf a b j = if 0 > y - x then 0 else y - x := by
  unfold lackOf
  rw [if_pos ⟨(List.getElem?_eq_some_iff.1 ha).1, (List.getElem?_eq_some_iff.1 hb).1⟩]
  simp only [List.getD, ha, hb, Option.getD_some]
theorem lack_no {a b : List Int} {j : Nat} (h : ¬ (j < a.length ∧ j < b.length)) : lackOf a b j = 0 := if_neg h
/-- How many of the last stamps one has not seen. -/
def missRow (hs : List Head) (r : Repl) (k : Nat) : Nat := ((hs.take k).filter fun h => !decide (headAt (ownOf r.ID r.Views).Seen h.Item = h.S)).length
def missAll (hs : List Head) (rs : List Repl) : Nat → Nat
  | 0 => 0
  | i + 1 => missAll hs rs i + (match rs[i]? with | some r => missRow hs r hs.length | none => 0)
theorem missRow_succ {hs : List Head} {r : Repl} {k : Nat} {h : Head} (e : hs[k]? = some h) : missRow hs r (k + 1) = missRow hs r k + (if headAt (ownOf r.ID r.Views).Seen h.Item = h.S then 0 else 1) := by
  unfold missRow; rw [take_succ e, List.filter_append]
  by_cases c : headAt (ownOf r.ID r.Views).Seen h.Item = h.S <;> simp [c]
theorem missRow_le (hs : List Head) (r : Repl) (k : Nat) : missRow hs r k ≤ k := by
  unfold missRow
  exact Nat.le_trans (List.length_filter_le _ _) (by simp; omega)
theorem missAll_succ {hs : List Head} {rs : List Repl} {r : Repl} {i : Nat} (h : rs[i]? = some r) : missAll hs rs (i + 1) = missAll hs rs i + missRow hs r hs.length := by
  simp only [missAll, h]
def headsM (l : List Version) : List Head := l.foldl (fun o v => putHead o ⟨v.Item, v.S⟩) []
theorem headsM_succ {l : List Version} {k : Nat} {v : Version} (h : l[k]? = some v) : headsM (l.take (k + 1)) = putHead (headsM (l.take k)) ⟨v.Item, v.S⟩ := by
  unfold headsM; rw [take_succ h, List.foldl_append]; rfl
theorem headsM_len (l : List Version) : ∀ k, (headsM (l.take k)).length ≤ k
  | 0 => by simp [headsM]
  | k + 1 => by
    by_cases h : k < l.length
    · rw [headsM_succ (List.getElem?_eq_getElem h)]
      have := putHead_len (headsM (l.take k)) ⟨l[k].Item, l[k].S⟩
      have := headsM_len l k
      omega
    · have := headsM_len l k
      rw [List.take_of_length_le (by omega)] at this ⊢; omega
def Mesh.missing (m : Mesh) : Nat := missAll (headsM m.Issued) m.Repls m.Repls.length
theorem missRow_no {hs : List Head} {r : Repl} {k : Nat} {h : Head} (e : hs[k]? = some h) (c : ¬ ((headAt (ownOf r.ID r.Views).Seen h.Item).L = h.S.L ∧ (headAt (ownOf r.ID r.Views).Seen h.Item).R = h.S.R ∧ (headAt (ownOf r.ID r.Views).Seen h.Item).N = h.S.N ∧ True)) : missRow hs r (k + 1) = missRow hs r k + 1 := by
  rw [missRow_succ e, if_neg]
  intro h'; exact c (by rw [h']; exact ⟨rfl, rfl, rfl, trivial⟩)
theorem missRow_yes {hs : List Head} {r : Repl} {k : Nat} {h : Head} (e : hs[k]? = some h) (c : (headAt (ownOf r.ID r.Views).Seen h.Item).L = h.S.L ∧ (headAt (ownOf r.ID r.Views).Seen h.Item).R = h.S.R ∧ (headAt (ownOf r.ID r.Views).Seen h.Item).N = h.S.N ∧ True) : missRow hs r (k + 1) = missRow hs r k := by
  rw [missRow_succ e, if_pos (Stamp.ext c.1 c.2.1 c.2.2.1), Nat.add_zero]
theorem lackRow_succ {rs : List Repl} {a b : Repl} {j : Nat} (h : rs[j]? = some b) : lackRow rs a (j + 1) = lackRow rs a j + lackOf (ownOf a.ID a.Views).Epochs (ownOf b.ID b.Views).Epochs j := by
  simp only [lackRow, h]
theorem lackAll_succ {rs : List Repl} {a : Repl} {i : Nat} (h : rs[i]? = some a) : lackAll rs (i + 1) = lackAll rs i + lackRow rs a rs.length := by
  simp only [lackAll, h]
end Go.Ab
