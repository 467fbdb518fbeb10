/- How abstract values lie in memory. -/
import Derived.Test.YtmkkhaonakdgpaaDoorAbSat
import Derived.Calls
import Derived.Laws.World
import Derived.Laws.Sem
namespace Go.Ab
open Go

/-- Where a block lies: block number, cells of an element, cells in all. -/
inductive Loc where
  | none
  | at (b esz : Nat) (size : Nat × Nat)
abbrev LMap := Site → Loc
def m0 : LMap := fun _ => .none

/-- What never changes any more: block, cell. -/
abbrev Phi := Nat → Nat → Option Value

inductive R (Φ : Phi) : LMap → AV → Value → Prop
  | bool {m : LMap} (b : Bool) : R Φ m (.bool b) (.bool b)
  | int {m : LMap} (k : IntKind) (n : Int) : R Φ m (.int k n) (.int k n)
  | str {m : LMap} {s : List UInt8} {x : ByteArray} : x.data.toList = s → R Φ m (.str s) (.string x)
  | nilp {m : LMap} : R Φ m .nilp (.pointer none)
  | nils {m : LMap} {a : Option Addr} : R Φ m .nils (.slice a 0 0)
  | nilf {m : LMap} : R Φ m .nilf .nilFunc
  | nili {m : LMap} : R Φ m .nili .nilIface
  | iface {m : LMap} {t : TypeId} {v : AV} {x : Value} : R Φ m v x → R Φ m (.iface t v) (.iface t x)
  | func {m : LMap} {f : FuncId} {as cs : List AV} {xs ys : Array Value} : as.length = xs.size → cs.length = ys.size →
      (∀ (j : Nat) (v : AV) (x : Value), as[j]? = some v → xs[j]? = some x → R Φ m v x) → (∀ (j : Nat) (v : AV) (x : Value), cs[j]? = some v → ys[j]? = some x → R Φ m v x) →
      R Φ m (.func f as cs) (.func (.func f) xs ys)
  | agg {m : LMap} {cs : List AV} {xs : Array Value} : cs.length = xs.size → (∀ (j : Nat) (v : AV) (x : Value), cs[j]? = some v → xs[j]? = some x → R Φ m v x) → R Φ m (.agg cs) (.agg xs)
  | tuple {m : LMap} {cs : List AV} {xs : Array Value} : cs.length = xs.size → (∀ (j : Nat) (v : AV) (x : Value), cs[j]? = some v → xs[j]? = some x → R Φ m v x) → R Φ m (.tuple cs) (.tuple xs)
  | tree0 {m : LMap} {a : Option Addr} {cap : Nat} : R Φ m (.tree []) (.slice a 0 cap)
  | tree {m : LMap} {xs : List AV} {b off cap : Nat} (esz : Nat) (f : Nat → Nat → Value) : xs.length ≤ cap →
      (∀ (i : Nat) (v : AV), xs[i]? = some v → v.cells.length = esz) →
      (∀ (i : Nat) (v : AV) (j : Nat) (c : AV), xs[i]? = some v → v.cells[j]? = some c → Φ b (off + i * esz + j) = some (f i j)) →
      (∀ (i : Nat) (v : AV) (j : Nat) (c : AV), xs[i]? = some v → v.cells[j]? = some c → R Φ m0 c (f i j)) → (∀ (i : Nat) (v : AV), xs[i]? = some v → allOneCell v.cells = true) →
      R Φ m (.tree xs) (.slice (some ⟨b, off, none⟩) xs.length cap)
  | cptr {m : LMap} {v : AV} {b off : Nat} (f : Nat → Value) : (∀ (j : Nat) (c : AV), v.cells[j]? = some c → Φ b (off + j) = some (f j)) → (∀ (j : Nat) (c : AV), v.cells[j]? = some c → R Φ m0 c (f j)) →
      R Φ m (.cptr v) (.pointer (some ⟨b, off, none⟩))
  | ref {m : LMap} {s : Site} {i o b esz : Nat} {size : Nat × Nat} : m s = .at b esz size → R Φ m (.ref s i o) (.pointer (some ⟨b, i * esz + o, none⟩))
  | sref0 {m : LMap} {s : Site} {lo : Nat} {a : Option Addr} : R Φ m (.sref s lo 0) (.slice a 0 0)
  | sref {m : LMap} {s : Site} {lo len cap b esz : Nat} {size : Nat × Nat} : m s = .at b esz size → len ≤ cap → (lo + cap) * esz ≤ size.1 → lo + len ≤ size.2 → R Φ m (.sref s lo len) (.slice (some ⟨b, lo * esz, none⟩) len cap)
  | top {m : LMap} {x : Value} : R Φ m .top x
  | raw {m : LMap} {x : Value} : x.oneCell' = true → R Φ m (.raw x) x

/-- More is known. -/
structure Ext (Φ : Phi) (m : LMap) (Φ' : Phi) (m' : LMap) : Prop where
  phi : ∀ b o x, Φ b o = some x → Φ' b o = some x
  map : ∀ s b e z, m s = .at b e z → m' s = .at b e z
theorem Ext.refl (Φ : Phi) (m : LMap) : Ext Φ m Φ m := ⟨fun _ _ _ h => h, fun _ _ _ _ h => h⟩
theorem Ext.trans {Φ Φ' Φ'' : Phi} {m m' m'' : LMap} (h : Ext Φ m Φ' m') (h' : Ext Φ' m' Φ'' m'') : Ext Φ m Φ'' m'' :=
  ⟨fun _ _ _ x => h'.phi _ _ _ (h.phi _ _ _ x), fun _ _ _ _ x => h'.map _ _ _ _ (h.map _ _ _ _ x)⟩

theorem R.mono {Φ : Phi} {m : LMap} {v : AV} {x : Value} (h : R Φ m v x) : ∀ {Φ' : Phi} {m' : LMap}, Ext Φ m Φ' m' → R Φ' m' v x := by
  induction h with
  | bool b => exact fun _ => .bool b
  | int k n => exact fun _ => .int k n
  | str h => exact fun _ => .str h
  | nilp => exact fun _ => .nilp
  | nils => exact fun _ => .nils
  | nilf => exact fun _ => .nilf
  | nili => exact fun _ => .nili
  | iface _ ih => exact fun e => .iface (ih e)
  | func h1 h2 _ _ ih1 ih2 => exact fun e => .func h1 h2 (fun j v x hv hx => ih1 j v x hv hx e) (fun j v x hv hx => ih2 j v x hv hx e)
  | agg h1 _ ih => exact fun e => .agg h1 (fun j v x hv hx => ih j v x hv hx e)
  | tuple h1 _ ih => exact fun e => .tuple h1 (fun j v x hv hx => ih j v x hv hx e)
  | tree0 => exact fun _ => .tree0
  | tree esz f h1 h2 h3 _ h5 ih =>
    exact fun e => .tree esz f h1 h2 (fun i v j c hv hc => e.phi _ _ _ (h3 i v j c hv hc)) (fun i v j c hv hc => ih i v j c hv hc ⟨e.phi, fun _ _ _ _ h => h⟩) h5
  | cptr f h1 _ ih => exact fun e => .cptr f (fun j c hc => e.phi _ _ _ (h1 j c hc)) (fun j c hc => ih j c hc ⟨e.phi, fun _ _ _ _ h => h⟩)
  | ref h => exact fun e => .ref (e.map _ _ _ _ h)
  | sref0 => exact fun _ => .sref0
  | sref h h1 h2 h3 => exact fun e => .sref (e.map _ _ _ _ h) h1 h2 h3
  | top => exact fun _ => .top
  | raw h => exact fun _ => .raw h

/-- Rows of values. -/
def Rs (Φ : Phi) (m : LMap) (vs : List AV) (xs : List Value) : Prop := vs.length = xs.length ∧ ∀ (j : Nat) (v : AV), vs[j]? = some v → ∃ x, xs[j]? = some x ∧ R Φ m v x
theorem Rs.nil {Φ : Phi} {m : LMap} : Rs Φ m [] [] := ⟨rfl, fun j v h => by simp at h⟩
theorem Rs.cons {Φ : Phi} {m : LMap} {v : AV} {x : Value} {vs : List AV} {xs : List Value} (h : R Φ m v x) (hs : Rs Φ m vs xs) : Rs Φ m (v :: vs) (x :: xs) := by
  refine ⟨by simp [hs.1], fun j u hj => ?_⟩
  cases j with
  | zero => simp at hj; subst hj; exact ⟨x, rfl, h⟩
  | succ j => simpa using hs.2 j u (by simpa using hj)
theorem Rs.inv_cons {Φ : Phi} {m : LMap} {v : AV} {vs : List AV} {xs : List Value} (h : Rs Φ m (v :: vs) xs) : ∃ x r, xs = x :: r ∧ R Φ m v x ∧ Rs Φ m vs r := by
  cases xs with
  | nil => have := h.1; simp at this
  | cons x r =>
    obtain ⟨y, hy, hr⟩ := h.2 0 v rfl
    simp at hy; subst hy
    exact ⟨x, r, rfl, hr, by have := h.1; simpa using this, fun j u hj => by simpa using h.2 (j + 1) u (by simpa using hj)⟩
theorem Rs.inv_nil {Φ : Phi} {m : LMap} {xs : List Value} (h : Rs Φ m [] xs) : xs = [] := by
  have := h.1
  cases xs with
  | nil => rfl
  | cons => simp at this
theorem Rs.mono {Φ Φ' : Phi} {m m' : LMap} {vs : List AV} {xs : List Value} (e : Ext Φ m Φ' m') (h : Rs Φ m vs xs) : Rs Φ' m' vs xs :=
  ⟨h.1, fun j v hv => let ⟨x, hx, hr⟩ := h.2 j v hv; ⟨x, hx, hr.mono e⟩⟩
theorem Rs.append {Φ : Phi} {m : LMap} {vs us : List AV} {xs ys : List Value} (h : Rs Φ m vs xs) (h' : Rs Φ m us ys) : Rs Φ m (vs ++ us) (xs ++ ys) := by
  induction vs generalizing xs with
  | nil => rw [h.inv_nil]; exact h'
  | cons v vs ih =>
    obtain ⟨x, r, rfl, hr, hs⟩ := h.inv_cons
    exact .cons hr (ih hs)
theorem Rs.at {Φ : Phi} {m : LMap} {vs : List AV} {xs : List Value} (h : Rs Φ m vs xs) {j : Nat} {v : AV} {x : Value} (hv : vs[j]? = some v) (hx : xs[j]? = some x) : R Φ m v x := by
  obtain ⟨y, hy, hr⟩ := h.2 j v hv
  rw [hx] at hy; cases hy; exact hr
theorem Rs.mk' {Φ : Phi} {m : LMap} {vs : List AV} {xs : List Value} (hl : vs.length = xs.length) (h : ∀ (j : Nat) (v : AV) (x : Value), vs[j]? = some v → xs[j]? = some x → R Φ m v x) : Rs Φ m vs xs := by
  refine ⟨hl, fun j v hv => ?_⟩
  have hj : j < vs.length := (List.getElem?_eq_some_iff.1 hv).1
  have hx : xs[j]? = some xs[j] := by simp [← hl, hj]
  exact ⟨_, hx, h j v _ hv hx⟩
theorem R.aggs {Φ : Phi} {m : LMap} {cs : List AV} {xs : Array Value} (h : Rs Φ m cs xs.toList) : R Φ m (.agg cs) (.agg xs) :=
  .agg (by simpa using h.1) (fun j v x hv hx => h.at hv (by simpa using hx))
theorem R.tuples {Φ : Phi} {m : LMap} {cs : List AV} {xs : Array Value} (h : Rs Φ m cs xs.toList) : R Φ m (.tuple cs) (.tuple xs) :=
  .tuple (by simpa using h.1) (fun j v x hv hx => h.at hv (by simpa using hx))
theorem R.agg_inv {Φ : Phi} {m : LMap} {cs : List AV} {x : Value} (h : R Φ m (.agg cs) x) : ∃ xs : Array Value, x = .agg xs ∧ Rs Φ m cs xs.toList := by
  cases h with
  | agg h1 h2 => exact ⟨_, rfl, Rs.mk' (by simpa using h1) fun j v x hv hx => h2 j v x hv (by simpa using hx)⟩
theorem R.tuple_inv {Φ : Phi} {m : LMap} {cs : List AV} {x : Value} (h : R Φ m (.tuple cs) x) : ∃ xs : Array Value, x = .tuple xs ∧ Rs Φ m cs xs.toList := by
  cases h with
  | tuple h1 h2 => exact ⟨_, rfl, Rs.mk' (by simpa using h1) fun j v x hv hx => h2 j v x hv (by simpa using hx)⟩
theorem R.func_inv {Φ : Phi} {m : LMap} {f : FuncId} {as cs : List AV} {x : Value} (h : R Φ m (.func f as cs) x) :
    ∃ xs ys : Array Value, x = .func (.func f) xs ys ∧ Rs Φ m as xs.toList ∧ Rs Φ m cs ys.toList := by
  cases h with
  | func h1 h2 h3 h4 => exact ⟨_, _, rfl, Rs.mk' (by simpa using h1) fun j v x hv hx => h3 j v x hv (by simpa using hx), Rs.mk' (by simpa using h2) fun j v x hv hx => h4 j v x hv (by simpa using hx)⟩
theorem R.funcs {Φ : Phi} {m : LMap} {f : FuncId} {as cs : List AV} {xs ys : Array Value} (h : Rs Φ m as xs.toList) (h' : Rs Φ m cs ys.toList) : R Φ m (.func f as cs) (.func (.func f) xs ys) :=
  .func (by simpa using h.1) (by simpa using h'.1) (fun j v x hv hx => h.at hv (by simpa using hx)) (fun j v x hv hx => h'.at hv (by simpa using hx))

theorem oneCell_cells {x : Value} (h : x.oneCell' = true) : x.cells = #[x] := by cases x <;> simp_all [Value.cells, Value.oneCell']
theorem R.one {Φ : Phi} {m : LMap} {v : AV} {x : Value} (h : R Φ m v x) (hv : isOneCell v = true) : x.cells = #[x] ∧ x.oneCell' = true := by
  by_cases hr : ∃ y, v = .raw y
  · obtain ⟨y, rfl⟩ := hr
    cases h with
    | raw hx => exact ⟨oneCell_cells hx, hx⟩
  · cases h <;> simp_all [isOneCell, Value.cells, Value.oneCell']
/-- A value's cells. -/
theorem R.cells {Φ : Phi} {m : LMap} {v : AV} {x : Value} (h : R Φ m v x) (hv : v ≠ .top) : Rs Φ m v.cells x.cells.toList := by
  cases h with
  | agg h1 h2 => exact Rs.mk' (by simpa [AV.cells, Value.cells] using h1) fun j v x hv hx => h2 j v x (by simpa [AV.cells] using hv) (by simpa [Value.cells] using hx)
  | top => exact absurd rfl hv
  | raw h => rw [oneCell_cells h]; exact .cons (.raw h) .nil
  | bool b => exact .cons (.bool b) .nil
  | int k n => exact .cons (.int k n) .nil
  | str h => exact .cons (.str h) .nil
  | nilp => exact .cons .nilp .nil
  | nils => exact .cons .nils .nil
  | nilf => exact .cons .nilf .nil
  | nili => exact .cons .nili .nil
  | iface h => exact .cons (.iface h) .nil
  | func h1 h2 h3 h4 => exact .cons (.func h1 h2 h3 h4) .nil
  | tuple h1 h2 => exact .cons (.tuple h1 h2) .nil
  | tree0 => exact .cons .tree0 .nil
  | tree e f h1 h2 h3 h4 h5 => exact .cons (.tree e f h1 h2 h3 h4 h5) .nil
  | cptr f h1 h2 => exact .cons (.cptr f h1 h2) .nil
  | ref h => exact .cons (.ref h) .nil
  | sref0 => exact .cons .sref0 .nil
  | sref h1 h2 h3 h4 => exact .cons (.sref h1 h2 h3 h4) .nil

theorem isOneCell_cells {v : AV} (h : isOneCell v = true) : v.cells = [v] := by cases v <;> simp_all [isOneCell, AV.cells]

theorem Site.eq_iff {a b : Site} : Site.eq a b = true ↔ a = b := by cases a <;> cases b <;> simp [Site.eq]
theorem Site.eq_refl (a : Site) : Site.eq a a = true := Site.eq_iff.2 rfl
theorem Site.eq_ne {a b : Site} (h : a ≠ b) : Site.eq a b = false := by cases hh : Site.eq a b with | false => rfl | true => exact absurd (Site.eq_iff.1 hh) h

theorem hget_cons_same (H : Heap) (s : Site) (b : Blk) : hget ((s, b) :: H) s = some b := by simp [hget, Site.eq_refl]
theorem hget_cons_ne (H : Heap) {s s' : Site} (b : Blk) (h : s ≠ s') : hget ((s, b) :: H) s' = hget H s' := by simp [hget, Site.eq_ne h]
theorem hget_hset_same {H : Heap} {s : Site} {b c : Blk} (h : hget H s = some b) : hget (hset H s c) s = some c := by
  induction H with
  | nil => simp [hget] at h
  | cons p r ih =>
    obtain ⟨a, d⟩ := p
    by_cases e : a = s
    · subst e; simp [hset, hget, Site.eq_refl]
    · simp only [hget, Site.eq_ne e, cond_false] at h
      simp [hset, hget, Site.eq_ne e, ih h]
theorem hget_hset_ne {H : Heap} {s s' : Site} {c : Blk} (h : s ≠ s') : hget (hset H s c) s' = hget H s' := by
  induction H with
  | nil => rfl
  | cons p r ih =>
    obtain ⟨a, d⟩ := p
    by_cases e : a = s
    · subst e; simp [hset, hget, Site.eq_refl, Site.eq_ne h]
    · by_cases e' : a = s'
      · subst e'; simp [hset, hget, Site.eq_refl, Site.eq_ne e]
      · simp [hset, hget, Site.eq_ne e, Site.eq_ne e', ih]

def Blk.live : Blk → Prop
  | .gone => False
  | _ => True

/-- A block lies in memory. -/
structure BoxOk (Φ : Phi) (m : LMap) (w : World) (s : Site) (v : AV) (wr : Bool) (b : Nat) (e : Nat) : Prop where
  loc : m s = .at b e (v.cells.length, 0)
  shape : ∃ t, w.shape? b = some (t, v.cells.length)
  cell : ∀ j c, v.cells[j]? = some c → ∃ x, w.cell? ⟨b, j, none⟩ = some x ∧ R Φ m c x
  nf : ∀ o, o < v.cells.length → w.frozen? ⟨b, o, none⟩ = false
  phi : wr = true → ∀ o, Φ b o = none
structure RowOk (Φ : Phi) (m : LMap) (w : World) (s : Site) (e : Nat) (xs : List AV) (wr : Bool) (b size : Nat) : Prop where
  loc : m s = .at b e (size, xs.length)
  pos : 0 < e
  len : xs.length * e ≤ size
  shape : ∃ t, w.shape? b = some (t, size)
  each : ∀ (i : Nat) (v : AV), xs[i]? = some v → v.cells.length = e
  cell : ∀ (i : Nat) (v : AV) (j : Nat) (c : AV), xs[i]? = some v → v.cells[j]? = some c → ∃ x, w.cell? ⟨b, i * e + j, none⟩ = some x ∧ R Φ m0 c x
  nf : ∀ o, o < size ∨ 1 < e → w.frozen? ⟨b, o, none⟩ = false
  phi : wr = true → ∀ o, Φ b o = none
  room : ∀ o, Φ b o ≠ none → o < xs.length * e
  one : ∀ (i : Nat) (v : AV), xs[i]? = some v → allOneCell v.cells = true
def BlkOk (Φ : Phi) (m : LMap) (w : World) (s : Site) : Blk → Prop
  | .box v wr => ∃ b e, BoxOk Φ m w s v wr b e
  | .row e xs wr _ => (m s = .none ∧ xs = [] ∧ e = e) ∨ ∃ b size, RowOk Φ m w s e xs wr b size
  | .gone => True

structure Inv (Φ : Phi) (m : LMap) (w : World) (H : Heap) : Prop where
  phi : ∀ b o x, Φ b o = some x → w.cell? ⟨b, o, none⟩ = some x
  blk : ∀ s B, hget H s = some B → BlkOk Φ m w s B
  map : ∀ s, hget H s = none → m s = .none
  inj : ∀ s s' B B' b e z e' z', hget H s = some B → hget H s' = some B' → B.live → B'.live → m s = .at b e z → m s' = .at b e' z' → s = s'
  lt : ∀ s b e z, m s = .at b e z → b < w.heap.size
/-- Since the call began: nothing else has changed. -/
structure Glob (Φg Φ₀ : Phi) (i₀ : LMap) (w₀ : World) (Φ : Phi) (m : LMap) (w : World) : Prop where
  phi : ∀ b o x, Φ₀ b o = some x → Φ b o = some x
  phiNew : ∀ b o, Φ b o ≠ none → Φ₀ b o = none → (∃ i e z, i₀ (.inc i) = .at b e z) ∨ w₀.heap.size ≤ b
  inc : ∀ i b e z, i₀ (.inc i) = .at b e z → m (.inc i) = .at b e z
  own : ∀ s b e z, m s = .at b e z → (∃ i e z, i₀ (.inc i) = .at b e z) ∨ w₀.heap.size ≤ b
  same : ∀ b, b < w₀.heap.size → (∀ i e z, i₀ (.inc i) ≠ .at b e z) → w.heap[b]? = w₀.heap[b]?
  size : w₀.heap.size ≤ w.heap.size
  os : w.os = w₀.os
  out : w.output = w₀.output
  tape : w.tape = w₀.tape
  base : ∀ b o x, Φg b o = some x → Φ₀ b o = some x

def RT (Φ : Phi) (m : LMap) (T : Temps) (tmps : Array Value) : Prop := ∀ t v, tget T t = some v → ∃ x, tmps[t]? = some x ∧ R Φ m v x

/-- A literal. -/
theorem R.lit {Φ : Phi} {m : LMap} {v : Value} {x : AV} (h : ofLit v = some x) : R Φ m x v := by
  unfold ofLit at h
  split at h <;> (try cases h) <;> first
    | exact .bool _ | exact .int _ _ | exact .str rfl | exact .nilp | exact .nils | exact .nilf | exact .nili
theorem R.lits {Φ : Phi} {m : LMap} : ∀ {vs : List Value} {xs : List AV}, ofLits vs = some xs → Rs Φ m xs vs
  | [], xs, h => by simp [ofLits] at h; subst h; exact .nil
  | v :: r, xs, h => by
    simp only [ofLits] at h
    split at h
    · rename_i x hx
      split at h
      · rename_i ys hy
        cases h
        exact .cons (.lit hx) (R.lits hy)
      · cases h
    · cases h
theorem R.value {Φ : Phi} {m : LMap} {v : Value} {x : AV} (h : ofValue v = some x) : R Φ m x v := by
  unfold ofValue at h
  split at h
  · split at h
    · rename_i l hl; cases h; exact .aggs (R.lits hl)
    · cases h
  · exact .lit h

theorem opnd_eval {Φ : Phi} {m : LMap} {s : St} {a : Act} {x : Operand} {v : AV} (hT : RT Φ m s.T a.tmps) (h : opnd s x = some v) : R Φ m v (a.eval x) := by
  cases x with
  | tmp t =>
    obtain ⟨y, hy, hr⟩ := hT t v h
    simp only [Act.eval, Array.getD_eq_getD_getElem?, hy, Option.getD_some]; exact hr
  | const c => exact .value h
  | global g => cases h
  | func f => simp only [opnd, Option.some.injEq] at h; subst h; exact R.funcs (by simpa using Rs.nil) (by simpa using Rs.nil)
theorem opnds_eval {Φ : Phi} {m : LMap} {s : St} {a : Act} (hT : RT Φ m s.T a.tmps) : ∀ {xs : List Operand} {vs : List AV}, opnds s xs = some vs → Rs Φ m vs (xs.map a.eval)
  | [], vs, h => by simp [opnds] at h; subst h; exact .nil
  | x :: r, vs, h => by
    simp only [opnds] at h
    split at h
    · rename_i v hv
      split at h
      · rename_i ws hw
        cases h
        exact .cons (opnd_eval hT hv) (opnds_eval hT hw)
      · cases h
    · cases h
end Go.Ab
