/- Replicas and gossip as the document has them: plain Lean. -/
import Derived.Test.YtmkkhaonakdgpaaDoorAbWf
namespace Go.Ab
open Go
/-- What a text is as a filter; where it is none; is it one? -/
abbrev Prs := List UInt8 → Flt × Int × Bool
def View.zero : View := ⟨0, 0, [], [], []⟩
def Version.zero : Version := ⟨0, ⟨0, 0, 0⟩, false, [], [], []⟩
def ownOf (id : Int) (l : List View) : View := if 1 ≤ id ∧ id ≤ l.length then l.getD (id - 1).toNat View.zero else View.zero
abbrev Repl.own (r : Repl) : View := ownOf r.ID r.Views
def Repl.flt (P : Prs) (r : Repl) : Flt := (P r.own.Filter).1
abbrev Repl.setOwn (r : Repl) (v : View) : Repl := { r with Views := r.Views.set (r.ID - 1).toNat v }
def outs (f : Flt) (item : Int) (l : List Version) : List Version := l.filter fun v => decide (v.Item ≠ item) && !f.lets v
def Repl.custody (r : Repl) (f : Flt) (item : Int) : Nat := (outs f item r.Held).length
abbrev Repl.hold (r : Repl) (v : Version) : Repl := { r with Held := putV r.Held v, L := v.S.L, N := v.S.N }
abbrev View.wrote (x : View) (v : Version) : View := { x with Seen := putHead x.Seen ⟨v.Item, v.S⟩, Rev := x.Rev + 1 }
def Repl.write (r : Repl) (v : Version) : Repl := (r.hold v).setOwn (r.own.wrote v)
def Repl.put (P : Prs) (r : Repl) (item : Int) (attrs : List Attr) (tag body : List UInt8) : Repl × Version × Int :=
  if (Version.mk item ⟨1, 1, 1⟩ false attrs tag body).may then
    if (nextStamp r.L r.ID r.N).2 then
      if !(r.flt P).lets ⟨item, (nextStamp r.L r.ID r.N).1, false, attrs, tag, body⟩ && decide (r.Quota ≤ r.custody (r.flt P) item) then (r, Version.zero, 4)
      else (r.write ⟨item, (nextStamp r.L r.ID r.N).1, false, attrs, tag, body⟩, ⟨item, (nextStamp r.L r.ID r.N).1, false, attrs, tag, body⟩, 0)
    else (r, Version.zero, 5)
  else (r, Version.zero, 1)
def Repl.delete (r : Repl) (item : Int) : Repl × Version × Int :=
  match findV r.Held item with
  | none => (r, Version.zero, 3)
  | some w =>
    if w.Dead then (r, Version.zero, 3)
    else if (nextStamp r.L r.ID r.N).2 then
      (r.write ⟨item, (nextStamp r.L r.ID r.N).1, true, w.Attrs, w.Tag, []⟩, ⟨item, (nextStamp r.L r.ID r.N).1, true, w.Attrs, w.Tag, []⟩, 0)
    else (r, Version.zero, 5)
def incAt (l : List Int) (n : Nat) : List Int := l.set n (l.getD n 0 + 1)
def Repl.refilter (r : Repl) (text : List UInt8) : Repl :=
  r.setOwn ⟨r.own.R, r.own.Rev + 1, text, headsOf r.Held, incAt r.own.Epochs (r.ID - 1).toNat⟩
def Repl.setFilter (P : Prs) (r : Repl) (text : List UInt8) : Repl × Int :=
  if (P text).2.2 then
    if r.Quota < r.custody (P text).1 0 then (r, 4) else (r.refilter text, 0)
  else (r, 2)
/-- What is held and not let go: all others know of it, and one keeps it. -/
def View.knows (size : Nat) (mine : List Int) (v : Version) (w : View) : Bool :=
  decide (w.Rev ≠ 0) && !decide ((headAt w.Seen v.Item).cmp v.S < 0) && !decide (w.Epochs.length < size ∨ mine.length < size) && (List.range size).all fun k => !decide (w.Epochs.getD k 0 < mine.getD k 0)
def Repl.known (P : Prs) (r : Repl) (v : Version) : Bool :=
  r.Views.all (fun w => w.knows r.Size.toNat r.own.Epochs v) && r.Views.any (fun w => (P w.Filter).1.lets v)
def Repl.sweep (P : Prs) (r : Repl) : Repl := { r with Held := r.Held.filter fun v => (r.flt P).lets v || !r.known P v }
/-- What one tells another: the least that is behind the last, again and again. -/
def behind (seen : List Head) (last : Stamp) (v : Version) : Bool := decide (0 < v.S.cmp (headAt seen v.Item)) && decide (0 < v.S.cmp last)
def bestOf (seen : List Head) (last : Stamp) (l : List Version) : Option Version :=
  l.foldl (fun b v => if behind seen last v && (match b with | none => true | some w => decide (v.S.cmp w.S < 0)) then some v else b) none
def batchOf (seen : List Head) (l : List Version) : Nat → Stamp → List Version
  | 0, _ => []
  | n + 1, last => match bestOf seen last l with
    | none => []
    | some v => v :: batchOf seen l n v.S
def Gossip.zero : Gossip := ⟨0, 0, [], []⟩
def Repl.tell (r : Repl) (to batch : Int) : Gossip × Bool :=
  if 1 ≤ to ∧ to ≤ r.Size ∧ to ≠ r.ID ∧ 1 ≤ batch ∧ batch ≤ 4 then
    (⟨r.ID, to, r.Views.filter (fun v => decide (0 < v.Rev)), batchOf (r.Views.getD (to - 1).toNat View.zero).Seen r.Held batch.toNat ⟨0, 0, 0⟩⟩, true)
  else (Gossip.zero, false)
/-- Views merged: each that is newer takes the place. -/
def takeView (v x : View) : View := if x.R = v.R ∧ x.Rev < v.Rev then v else x
def mergeV (a b : List View) : List View := b.foldl (fun o v => o.map (takeView v)) a
def maxes : List Int → List Int → List Int
  | a :: x, b :: y => (if b > a then b else a) :: maxes x y
  | x, [] => x
  | [], _ => []
def epochsOf (l : List View) (size : Nat) : List Int := l.foldl (fun o v => maxes o v.Epochs) (List.replicate size 0)
def newView (id size : Nat) (i : Nat) : View := if i + 1 = id then ⟨(i : Int) + 1, 1, [42], [], List.replicate size 0⟩ else ⟨(i : Int) + 1, 0, [], [], []⟩
def newRepl (id size : Nat) (quota : Int) : Repl := ⟨id, size, 0, 0, quota, [], (List.range size).map (newView id size)⟩
def View.may (P : Prs) (size : Int) (v : View) : Bool :=
  if 1 ≤ v.R ∧ v.R ≤ size ∧ 0 ≤ v.Rev ∧ v.Rev ≤ 1000000 then
    if v.Rev = 0 then decide (v.Filter = [] ∧ v.Seen = [] ∧ v.Epochs = [])
    else (P v.Filter).2.2 && headsMay 0 v.Seen && decide ((v.Epochs.length : Int) = size) && v.Epochs.all fun e => decide (0 ≤ e ∧ e ≤ 1000000)
  else false
def viewsMay (P : Prs) (size : Int) : Int → List View → Bool
  | _, [] => true
  | last, v :: r => v.may P size && decide (1 ≤ v.Rev ∧ last < v.R) && viewsMay P size v.R r
def batchMay : Option Stamp → List Version → Bool
  | _, [] => true
  | last, v :: r => v.may && (match last with | some s => decide (s.cmp v.S < 0) | none => true) && batchMay (some v.S) r
def Gossip.may (P : Prs) (size : Int) (g : Gossip) : Bool :=
  decide (1 ≤ g.From ∧ g.From ≤ size ∧ 1 ≤ g.To ∧ g.To ≤ size ∧ g.From ≠ g.To ∧ g.Batch.length ≤ 4) && viewsMay P size 0 g.Views && batchMay none g.Batch
/-- A version comes: into what is held and what was seen. -/
def Repl.come (f : Flt) (p : Repl × View) (v : Version) : Repl × View :=
  let x := { p.1 with L := if v.S.L > p.1.L then v.S.L else p.1.L }
  if v.S.cmp (headAt p.2.Seen v.Item) ≤ 0 then (x, p.2)
  else if f.lets v || decide ((x.custody f v.Item : Int) < x.Quota) then ({ x with Held := putV x.Held v }, { p.2 with Seen := putHead p.2.Seen ⟨v.Item, v.S⟩ })
  else (x, p.2)
abbrev Repl.merged (r : Repl) (g : Gossip) : Repl := { r with Views := (mergeV r.Views g.Views).set (r.ID - 1).toNat r.own }
def Repl.meOf (x : Repl) (me : View) : View := if epochsOf x.Views x.Size.toNat = me.Epochs then me else { me with Epochs := epochsOf x.Views x.Size.toNat, Seen := headsOf x.Held }
def Repl.takeIn (P : Prs) (r : Repl) (g : Gossip) : Repl :=
  let x := r.merged g
  let p := g.Batch.foldl (Repl.come (x.flt P)) (x, x.meOf x.own)
  let me := if p.2.Seen = r.own.Seen ∧ p.2.Epochs = r.own.Epochs then p.2 else { p.2 with Rev := p.2.Rev + 1 }
  (p.1.setOwn me).sweep P
def Repl.take (P : Prs) (r : Repl) (g : Gossip) : Repl × Int := if g.may P r.Size && decide (g.To = r.ID) then (r.takeIn P g, 0) else (r, 1)
theorem own_at {id : Int} {l : List View} {x : View} (h : l[(id - 1).toNat]? = some x) (h1 : 1 ≤ id) : ownOf id l = x := by
  have hk := (List.getElem?_eq_some_iff.1 h).1
  unfold ownOf
  rw [if_pos (by omega), List.getD, h]; rfl
/-- What a version that may be is like. -/
structure Version.Fit (v : Version) : Prop where
  i0 : 1 ≤ v.Item
  i1 : v.Item ≤ 6
  l0 : 1 ≤ v.S.L
  l1 : v.S.L ≤ 5000
  r0 : 1 ≤ v.S.R
  r1 : v.S.R ≤ 5
  n0 : 1 ≤ v.S.N
  n1 : v.S.N ≤ 1000
  al : v.Attrs.length ≤ 3
  tl : v.Tag.length ≤ 6
  bl : v.Body.length ≤ 12
  av : ∀ a ∈ v.Attrs, 0 ≤ a.Key ∧ a.Key ≤ 3 ∧ 0 ≤ a.Val ∧ a.Val ≤ 99
theorem own_set {id : Int} {l : List View} (v : View) (h1 : 1 ≤ id) (h2 : id ≤ l.length) : ownOf id (l.set (id - 1).toNat v) = v :=
  own_at (by rw [List.getElem?_set_self (by omega)]) h1
theorem mergeV_len : ∀ (b a : List View), (mergeV a b).length = a.length
  | [], a => rfl
  | v :: b, a => by
    have := mergeV_len b (a.map (takeView v))
    simp only [mergeV, List.foldl_cons] at *
    rw [this]; simp
theorem mergeV_mem : ∀ {b a : List View} {w : View}, w ∈ mergeV a b → w ∈ a ∨ w ∈ b
  | [], a, w, h => .inl h
  | v :: b, a, w, h => by
    rcases mergeV_mem (b := b) (a := a.map (takeView v)) (by simpa only [mergeV, List.foldl_cons] using h) with h | h
    · obtain ⟨x, hx, rfl⟩ := List.mem_map.1 h
      unfold takeView
      split
      · exact .inr (List.mem_cons_self ..)
      · exact .inl hx
    · exact .inr (List.mem_cons_of_mem _ h)
theorem insV_mem : ∀ {l : List Version} {v w : Version}, w ∈ insV l v → w ∈ l ∨ w = v
  | [], v, w, h => by simp [insV] at h; exact .inr h
  | x :: l, v, w, h => by
    unfold insV at h
    split at h
    · rcases List.mem_cons.1 h with h | h
      · exact .inr h
      · exact .inl (List.mem_filter.1 h).1
    · rcases List.mem_cons.1 h with h | h
      · exact .inl (h ▸ List.mem_cons_self ..)
      · rcases insV_mem h with h | h
        · exact .inl (List.mem_cons_of_mem _ h)
        · exact .inr h
theorem putV_mem {l : List Version} {v w : Version} (h : w ∈ putV l v) : w ∈ l ∨ w = v := by
  unfold putV at h
  split at h
  · split at h
    · exact .inl h
    · exact insV_mem h
  · exact insV_mem h
theorem insV_len : ∀ (l : List Version) (v : Version), (insV l v).length ≤ l.length + 1
  | [], v => by simp [insV]
  | x :: l, v => by
    unfold insV
    split
    · have := List.length_filter_le (fun y : Version => decide (y.Item ≠ v.Item)) (x :: l)
      simp only [List.length_cons] at *; omega
    · have := insV_len l v
      simp only [List.length_cons]; omega
theorem putV_len (l : List Version) (v : Version) : (putV l v).length ≤ l.length + 1 := by
  unfold putV
  split
  · split
    · omega
    · exact insV_len l v
  · exact insV_len l v
theorem insGo_len : ∀ (l : List Head) (v : Head), (insGo l v).length ≤ l.length + 1
  | [], v => by simp [insGo]
  | x :: l, v => by
    unfold insGo
    split
    · have := List.length_filter_le (fun y : Head => decide (y.Item ≠ v.Item)) (x :: l)
      simp only [List.length_cons] at *; omega
    · have := insGo_len l v
      simp only [List.length_cons]; omega
theorem putHead_len (l : List Head) (v : Head) : (putHead l v).length ≤ l.length + 1 := by
  unfold putHead
  split
  · omega
  · exact insGo_len l v
theorem attrsMay_mem : ∀ {l : List Attr} {k : Int}, -1 ≤ k → attrsMay k l = true → ∀ a ∈ l, 0 ≤ a.Key ∧ a.Key ≤ 3 ∧ 0 ≤ a.Val ∧ a.Val ≤ 99
  | [], k, hk, _, a, h => by cases h
  | x :: l, k, hk, hm, a, h => by
    simp only [attrsMay, Bool.and_eq_true, decide_eq_true_eq] at hm
    rcases List.mem_cons.1 h with rfl | h
    · omega
    · exact attrsMay_mem (by omega) hm.2 a h
theorem Version.may_fit {v : Version} (h : v.may = true) : v.Fit := by
  unfold Version.may Stamp.may at h
  simp only [Bool.and_eq_true, decide_eq_true_eq] at h
  obtain ⟨⟨⟨⟨⟨⟨h1, h2⟩, h3⟩, h4⟩, h5⟩, h6⟩, h7⟩ := h
  exact ⟨by omega, by omega, by omega, by omega, by omega, by omega, by omega, by omega, h3, h4.2, h5, attrsMay_mem (by omega) h7⟩
theorem Version.may_nums {v : Version} (h : v.may = true) : 1 ≤ v.Item ∧ v.Item ≤ 6 ∧ 1 ≤ v.S.L ∧ v.S.L ≤ 5000 ∧ 1 ≤ v.S.R ∧ v.S.R ≤ 5 ∧ 1 ≤ v.S.N ∧ v.S.N ≤ 1000 ∧ v.Attrs.length ≤ 3 ∧ v.Tag.length ≤ 6 ∧ v.Body.length ≤ 12 :=
  have f := Version.may_fit h
  ⟨f.i0, f.i1, f.l0, f.l1, f.r0, f.r1, f.n0, f.n1, f.al, f.tl, f.bl⟩
def attrsB (l : List Attr) : List UInt8 := l.flatMap fun a => numB a.Key.toNat ++ numB a.Val.toNat
def versB (v : Version) : List UInt8 := numB v.Item.toNat ++ numB v.S.L.toNat ++ numB v.S.R.toNat ++ numB v.S.N.toNat ++ numB v.Dead.toNat ++ numB v.Attrs.length
def textB (s : List UInt8) : List UInt8 := numB s.length ++ s
def putVers (b : List UInt8) (v : Version) : List UInt8 := if v.may then b ++ versB v ++ attrsB v.Attrs ++ textB v.Tag ++ textB v.Body else b
theorem attrsB_len : ∀ {l : List Attr}, (∀ a ∈ l, 0 ≤ a.Key ∧ a.Key ≤ 3 ∧ 0 ≤ a.Val ∧ a.Val ≤ 99) → (attrsB l).length ≤ 10 * l.length
  | [], _ => by simp [attrsB]
  | a :: l, h => by
    have ha := h a (List.mem_cons_self ..)
    have h1 := numB_len a.Key.toNat (by omega)
    have h2 := numB_len a.Val.toNat (by omega)
    have h3 := attrsB_len (l := l) (fun b hb => h b (List.mem_cons_of_mem _ hb))
    simp only [attrsB, List.flatMap_cons, List.length_append, List.length_cons] at *
    omega
theorem putVers_len (b : List UInt8) (v : Version) : (putVers b v).length ≤ b.length + 120 := by
  unfold putVers
  split
  · rename_i h
    have f := Version.may_fit h
    have hd : v.Dead.toNat ≤ 1 := by cases v.Dead <;> simp
    have l1 := numB_len v.Item.toNat (by have := f.i1; omega)
    have l2 := numB_len v.S.L.toNat (by have := f.l1; omega)
    have l3 := numB_len v.S.R.toNat (by have := f.r1; omega)
    have l4 := numB_len v.S.N.toNat (by have := f.n1; omega)
    have l5 := numB_len v.Dead.toNat (by omega)
    have l6 := numB_len v.Attrs.length (by have := f.al; omega)
    have l7 := attrsB_len f.av
    have l8 := numB_len v.Tag.length (by have := f.tl; omega)
    have l9 := numB_len v.Body.length (by have := f.bl; omega)
    have a1 := f.al; have a2 := f.tl; have a3 := f.bl
    simp only [versB, textB, List.length_append]
    omega
  · omega
theorem attrsB_succ {l : List Attr} {k : Nat} {a : Attr} (h : l[k]? = some a) : attrsB (l.take (k + 1)) = attrsB (l.take k) ++ numB a.Key.toNat ++ numB a.Val.toNat := by
  unfold attrsB; rw [take_succ h, List.flatMap_append]; simp
theorem headsMay_len : ∀ {l : List Head} {k : Int}, k ≤ 6 → headsMay k l = true → (l.length : Int) ≤ 6 - k
  | [], k, hk, _ => by simp; omega
  | x :: l, k, hk, h => by
    simp only [headsMay, Bool.and_eq_true, decide_eq_true_eq] at h
    have := headsMay_len (k := x.Item) (by omega) h.2
    simp only [List.length_cons]; omega
theorem headsMay_mem : ∀ {l : List Head} {k : Int}, headsMay k l = true → ∀ h ∈ l, k < h.Item ∧ 1 ≤ h.Item ∧ h.Item ≤ 6 ∧ 1 ≤ h.S.L ∧ h.S.L ≤ 5000 ∧ 1 ≤ h.S.R ∧ h.S.R ≤ 5 ∧ 1 ≤ h.S.N ∧ h.S.N ≤ 1000
  | [], k, _, h, hm => by cases hm
  | x :: l, k, hh, h, hm => by
    simp only [headsMay, Bool.and_eq_true, decide_eq_true_eq] at hh
    have hs := hh.1.2
    unfold Stamp.may at hs
    simp only [decide_eq_true_eq] at hs
    rcases List.mem_cons.1 hm with rfl | hm
    · omega
    · have := headsMay_mem hh.2 h hm
      omega
/-- What a view that may be, of which something is known, is like. -/
structure View.Fit (P : Prs) (size : Int) (v : View) : Prop where
  r0 : 1 ≤ v.R
  r1 : v.R ≤ size
  v0 : 0 ≤ v.Rev
  v1 : v.Rev ≤ 1000000
  f : v.Rev ≠ 0 → (P v.Filter).2.2 = true
  f0 : v.Rev = 0 → v.Filter = [] ∧ v.Seen = [] ∧ v.Epochs = []
  s : headsMay 0 v.Seen = true
  el : v.Rev ≠ 0 → (v.Epochs.length : Int) = size
  e : ∀ e ∈ v.Epochs, 0 ≤ e ∧ e ≤ 1000000
theorem View.may_fit {P : Prs} {size : Int} {v : View} (h : v.may P size = true) : v.Fit P size := by
  unfold View.may at h
  split at h
  · rename_i h1
    split at h
    · rename_i h2
      simp only [decide_eq_true_eq] at h
      exact ⟨h1.1, h1.2.1, h1.2.2.1, h1.2.2.2, fun h3 => absurd h2 h3, fun _ => h, by rw [h.2.1]; rfl, fun h3 => absurd h2 h3, by rw [h.2.2]; intro e he; cases he⟩
    · rename_i h2
      simp only [Bool.and_eq_true, decide_eq_true_eq, List.all_eq_true] at h
      exact ⟨h1.1, h1.2.1, h1.2.2.1, h1.2.2.2, fun _ => h.1.1.1, fun h3 => absurd h3 h2, h.1.1.2, fun _ => h.1.2, h.2⟩
  · cases h
theorem View.Fit.slen {P : Prs} {size : Int} {v : View} (h : v.Fit P size) : v.Seen.length ≤ 6 := by
  have := headsMay_len (by omega) h.s; omega
theorem viewsMay_len {P : Prs} {size : Int} : ∀ {l : List View} {k : Int}, k ≤ size → viewsMay P size k l = true → (l.length : Int) ≤ size - k
  | [], k, hk, _ => by simp; omega
  | x :: l, k, hk, h => by
    simp only [viewsMay, Bool.and_eq_true, decide_eq_true_eq] at h
    have hf := View.may_fit h.1.1
    have := viewsMay_len (k := x.R) hf.r1 h.2
    simp only [List.length_cons]; omega
theorem viewsMay_mem {P : Prs} {size : Int} : ∀ {l : List View} {k : Int}, viewsMay P size k l = true → ∀ v ∈ l, v.Fit P size ∧ 1 ≤ v.Rev
  | [], k, _, v, hm => by cases hm
  | x :: l, k, h, v, hm => by
    simp only [viewsMay, Bool.and_eq_true, decide_eq_true_eq] at h
    rcases List.mem_cons.1 hm with rfl | hm
    · exact ⟨View.may_fit h.1.1, h.1.2.1⟩
    · exact viewsMay_mem h.2 v hm
theorem batchMay_mem : ∀ {l : List Version} {k : Option Stamp}, batchMay k l = true → ∀ v ∈ l, v.may = true
  | [], k, _, v, hm => by cases hm
  | x :: l, k, h, v, hm => by
    simp only [batchMay, Bool.and_eq_true] at h
    rcases List.mem_cons.1 hm with rfl | hm
    · exact h.1.1
    · exact batchMay_mem h.2 v hm
structure Gossip.Fit (P : Prs) (size : Int) (g : Gossip) : Prop where
  f0 : 1 ≤ g.From
  f1 : g.From ≤ size
  t0 : 1 ≤ g.To
  t1 : g.To ≤ size
  ne : g.From ≠ g.To
  bl : g.Batch.length ≤ 4
  vl : (g.Views.length : Int) ≤ size
  vs : ∀ v ∈ g.Views, v.Fit P size ∧ 1 ≤ v.Rev
  bs : ∀ v ∈ g.Batch, v.may = true
theorem Gossip.may_fit {P : Prs} {size : Int} {g : Gossip} (h : g.may P size = true) : g.Fit P size := by
  unfold Gossip.may at h
  simp only [Bool.and_eq_true, decide_eq_true_eq] at h
  obtain ⟨⟨h1, h2⟩, h3⟩ := h
  have := viewsMay_len (by omega) h2
  exact ⟨by omega, by omega, by omega, by omega, h1.2.2.2.2.1, by omega, by omega, viewsMay_mem h2, batchMay_mem h3⟩
theorem Gossip.may_nums {P : Prs} {size : Int} {g : Gossip} (h : g.may P size = true) : 1 ≤ g.From ∧ g.From ≤ size ∧ 1 ≤ g.To ∧ g.To ≤ size ∧ g.From ≠ g.To ∧ g.Batch.length ≤ 4 ∧ (g.Views.length : Int) ≤ size :=
  have f := Gossip.may_fit h
  ⟨f.f0, f.f1, f.t0, f.t1, f.ne, f.bl, f.vl⟩
theorem knows_rev {size : Nat} {mine : List Int} {v : Version} {w : View} (h : w.Rev = 0) : w.knows size mine v = false := by simp [View.knows, h]
theorem knows_cmp {size : Nat} {mine : List Int} {v : Version} {w : View} (h : (headAt w.Seen v.Item).cmp v.S < 0) : w.knows size mine v = false := by simp [View.knows, h]
theorem knows_len {size : Nat} {mine : List Int} {v : Version} {w : View} (h : w.Epochs.length < size ∨ mine.length < size) : w.knows size mine v = false := by simp [View.knows, h]
def epsIn (a b : List Int) (k : Nat) : Bool := (List.range k).all fun k => !decide (a.getD k 0 < b.getD k 0)
theorem epsIn_succ (a b : List Int) (k : Nat) : epsIn a b (k + 1) = (epsIn a b k && !decide (a.getD k 0 < b.getD k 0)) := by
  simp [epsIn, List.range_succ]
theorem epsIn_no {a b : List Int} {k : Nat} (h : a.getD k 0 < b.getD k 0) : ∀ n, k < n → epsIn a b n = false
  | 0, hn => by omega
  | n + 1, hn => by
    rw [epsIn_succ]
    by_cases e : k = n
    · subst e; simp only [h, decide_true, Bool.not_true, Bool.and_false]
    · rw [epsIn_no h n (by omega), Bool.false_and]
theorem knows_ep {size : Nat} {mine : List Int} {v : Version} {w : View} {k : Nat} {a b : Int} (ha : w.Epochs[k]? = some a) (hb : mine[k]? = some b) (hk : k < size) (h : a < b) : w.knows size mine v = false := by
  have := epsIn_no (a := w.Epochs) (b := mine) (k := k) (by simp [List.getD, ha, hb, h]) size hk
  unfold epsIn at this
  simp only [View.knows, this, Bool.and_false]
theorem knows_yes {size : Nat} {mine : List Int} {v : Version} {w : View} (h1 : ¬ w.Rev = 0) (h2 : ¬ (headAt w.Seen v.Item).cmp v.S < 0) (h3 : ¬ (w.Epochs.length < size ∨ mine.length < size)) (h4 : epsIn w.Epochs mine size = true) : w.knows size mine v = true := by
  unfold epsIn at h4
  simp only [View.knows, h4, h2, h3, decide_false, Bool.not_false, Bool.and_true, decide_eq_true h1, ne_eq]
theorem outs_succ {f : Flt} {item : Int} {l : List Version} {k : Nat} {x : Version} (h : l[k]? = some x) : outs f item (l.take (k + 1)) = outs f item (l.take k) ++ (if (decide (x.Item ≠ item) && !f.lets x) = true then [x] else []) := by
  unfold outs; rw [take_succ h, List.filter_append]; simp [List.filter_cons]
theorem outs_len (f : Flt) (item : Int) (l : List Version) : (outs f item l).length ≤ l.length := List.length_filter_le _ _
/-- A row of which the first so many are turned. -/
def turnTo {T : Type} (f : T → T) (l : List T) (j : Nat) : List T := (l.take j).map f ++ l.drop j
theorem turnTo_zero {T : Type} (f : T → T) (l : List T) : turnTo f l 0 = l := by simp [turnTo]
theorem turnTo_len {T : Type} (f : T → T) (l : List T) (j : Nat) : (turnTo f l j).length = l.length := by simp [turnTo]; omega
theorem turnTo_at {T : Type} (f : T → T) (l : List T) (j : Nat) : (turnTo f l j)[j]? = l[j]? := by
  unfold turnTo
  by_cases h : j < l.length
  · rw [List.getElem?_append_right (by simp; omega)]; simp [Nat.min_eq_left (Nat.le_of_lt h)]
  · rw [List.getElem?_eq_none (by simp; omega), List.getElem?_eq_none (by omega)]
theorem turnTo_all {T : Type} (f : T → T) (l : List T) (j : Nat) (h : l.length ≤ j) : turnTo f l j = l.map f := by
  unfold turnTo; rw [List.take_of_length_le h, List.drop_of_length_le h, List.append_nil]
theorem turnTo_keep {T : Type} {f : T → T} {l : List T} {j : Nat} {x : T} (h : l[j]? = some x) (hf : f x = x) : turnTo f l (j + 1) = turnTo f l j := by
  unfold turnTo; rw [take_succ h, drop_at h]; simp [hf]
theorem turnTo_set {T : Type} {f : T → T} {l : List T} {j : Nat} {x : T} (h : l[j]? = some x) : (turnTo f l j).set j (f x) = turnTo f l (j + 1) := by
  have hk : j < l.length := (List.getElem?_eq_some_iff.1 h).1
  unfold turnTo; rw [take_succ h, drop_at h, List.set_append_right _ _ (by simp; omega)]
  simp [Nat.min_eq_left (Nat.le_of_lt hk)]
/-- The first so many of a row, at least as much as another one's. -/
def maxTo (out ep : List Int) (k : Nat) : List Int := maxes (out.take k) ep ++ out.drop k
theorem maxes_len : ∀ (x y : List Int), (maxes x y).length = x.length
  | [], y => by cases y <;> rfl
  | a :: x, [] => rfl
  | a :: x, b :: y => by simp [maxes, maxes_len x y]
theorem maxTo_len (out ep : List Int) (k : Nat) : (maxTo out ep k).length = out.length := by simp [maxTo, maxes_len]; omega
theorem maxTo_zero (out ep : List Int) : maxTo out ep 0 = out := by
  have : maxes [] ep = [] := by cases ep <;> rfl
  simp [maxTo, this]
theorem maxTo_at : ∀ (out ep : List Int) (k : Nat), (maxTo out ep k)[k]? = out[k]?
  | out, ep, k => by
    unfold maxTo
    by_cases h : k < out.length
    · rw [List.getElem?_append_right (by simp [maxes_len]; omega)]; simp [maxes_len, Nat.min_eq_left (Nat.le_of_lt h)]
    · rw [List.getElem?_eq_none (by simp [maxes_len]; omega), List.getElem?_eq_none (by omega)]
theorem maxTo_set : ∀ {out ep : List Int} {k : Nat} {a b : Int}, out[k]? = some a → ep[k]? = some b → (maxTo out ep k).set k (if b > a then b else a) = maxTo out ep (k + 1)
  | [], ep, k, a, b, h, _ => by simp at h
  | x :: out, [], k, a, b, _, h => by simp at h
  | x :: out, y :: ep, 0, a, b, h, h' => by simp at h h'; subst h; subst h'; cases ep <;> simp [maxTo, maxes]
  | x :: out, y :: ep, k + 1, a, b, h, h' => by
    have := maxTo_set (out := out) (ep := ep) (k := k) (by simpa using h) (by simpa using h')
    simp only [maxTo, List.take_succ_cons, maxes, List.drop_succ_cons, List.cons_append, List.set_cons_succ, List.cons.injEq, true_and] at this ⊢
    exact this
theorem maxTo_all : ∀ (out ep : List Int) (k : Nat), out.length ≤ k ∨ ep.length ≤ k → maxTo out ep k = maxes out ep
  | [], ep, k, _ => by cases ep <;> simp [maxTo, maxes]
  | x :: out, [], k, _ => by
    have : ∀ l : List Int, maxes l [] = l := fun l => by cases l <;> rfl
    simp [maxTo, this]
  | x :: out, y :: ep, 0, h => by simp at h
  | x :: out, y :: ep, k + 1, h => by
    have := maxTo_all out ep k (by simpa using h)
    simp only [maxTo] at this
    simp [maxTo, maxes, this]
theorem mergeV_succ {a b : List View} {k : Nat} {v : View} (h : b[k]? = some v) : mergeV a (b.take (k + 1)) = (mergeV a (b.take k)).map (takeView v) := by
  unfold mergeV; rw [take_succ h, List.foldl_append]; rfl
theorem epochsOf_succ {l : List View} {n k : Nat} {v : View} (h : l[k]? = some v) : epochsOf (l.take (k + 1)) n = maxes (epochsOf (l.take k) n) v.Epochs := by
  unfold epochsOf; rw [take_succ h, List.foldl_append]; rfl
section
variable {f : Flt} {ID Size L N Q R Rev : Int} {H : List Version} {Vs : List View} {Fi : List UInt8} {S : List Head} {E : List Int} {v : Version}
theorem come_no (h : v.S.cmp (headAt S v.Item) ≤ 0) : Repl.come f (⟨ID, Size, L, N, Q, H, Vs⟩, ⟨R, Rev, Fi, S, E⟩) v = (⟨ID, Size, if v.S.L > L then v.S.L else L, N, Q, H, Vs⟩, ⟨R, Rev, Fi, S, E⟩) := by
  unfold Repl.come; exact if_pos h
theorem come_lets (h : ¬ v.S.cmp (headAt S v.Item) ≤ 0) (hl : f.lets v = true) : Repl.come f (⟨ID, Size, L, N, Q, H, Vs⟩, ⟨R, Rev, Fi, S, E⟩) v = (⟨ID, Size, if v.S.L > L then v.S.L else L, N, Q, putV H v, Vs⟩, ⟨R, Rev, Fi, putHead S ⟨v.Item, v.S⟩, E⟩) := by
  unfold Repl.come; exact (if_neg h).trans (if_pos (by rw [hl, Bool.true_or]))
theorem come_room (h : ¬ v.S.cmp (headAt S v.Item) ≤ 0) (hr : ((Repl.mk ID Size (if v.S.L > L then v.S.L else L) N Q H Vs).custody f v.Item : Int) < Q) : Repl.come f (⟨ID, Size, L, N, Q, H, Vs⟩, ⟨R, Rev, Fi, S, E⟩) v = (⟨ID, Size, if v.S.L > L then v.S.L else L, N, Q, putV H v, Vs⟩, ⟨R, Rev, Fi, putHead S ⟨v.Item, v.S⟩, E⟩) := by
  unfold Repl.come; exact (if_neg h).trans (if_pos (by rw [decide_eq_true hr, Bool.or_true]))
theorem come_full (h : ¬ v.S.cmp (headAt S v.Item) ≤ 0) (hl : f.lets v = false) (hr : ¬ ((Repl.mk ID Size (if v.S.L > L then v.S.L else L) N Q H Vs).custody f v.Item : Int) < Q) : Repl.come f (⟨ID, Size, L, N, Q, H, Vs⟩, ⟨R, Rev, Fi, S, E⟩) v = (⟨ID, Size, if v.S.L > L then v.S.L else L, N, Q, H, Vs⟩, ⟨R, Rev, Fi, S, E⟩) := by
  unfold Repl.come; exact (if_neg h).trans (if_neg (by rw [hl, decide_eq_false hr]; simp))
end
theorem epochsOf_len (l : List View) (n : Nat) : (epochsOf l n).length = n := by
  unfold epochsOf
  have : ∀ (l : List View) (o : List Int), (l.foldl (fun o v => maxes o v.Epochs) o).length = o.length := by
    intro l
    induction l with
    | nil => intro o; rfl
    | cons v l ih => intro o; rw [List.foldl_cons, ih, maxes_len]
  rw [this]; simp
theorem take_ok {P : Prs} {r : Repl} {g : Gossip} (h : g.may P r.Size = true) (h' : g.To = r.ID) : r.take P g = (r.takeIn P g, 0) := by
  unfold Repl.take; exact if_pos (by simp [h, h'])
theorem come_succ {f : Flt} {l : List Version} {k : Nat} {v : Version} {z : Repl × View} (h : l[k]? = some v) : (l.take (k + 1)).foldl (Repl.come f) z = Repl.come f ((l.take k).foldl (Repl.come f) z) v := by
  rw [take_succ h, List.foldl_append]; rfl
end Go.Ab
