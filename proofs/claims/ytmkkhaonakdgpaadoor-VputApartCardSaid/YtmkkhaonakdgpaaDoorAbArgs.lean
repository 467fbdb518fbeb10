/- Arguments that lie in memory, as the runner writes them. -/
import Derived.Test.YtmkkhaonakdgpaaDoorAbBridge
import Derived.Test.YtmkkhaonakdgpaaDoorAbEnc
import Derived.WideShapes
import Derived.DataReads
import Derived.ChangeShapes
import Derived.ReadAgain
import Derived.ChangeMaps5
import Derived.RowKit
namespace Go.Ab
open Go

/-- Types of plain data. -/
inductive Ty where
  | bool | int (k : IntKind) | str | slice (e : Ty) | agg (fs : List Ty)

mutual
def Ty.cells : Ty → Nat
  | .agg fs => Ty.cellsAll fs
  | .bool => 1
  | .int _ => 1
  | .str => 1
  | .slice _ => 1
def Ty.cellsAll : List Ty → Nat
  | [] => 0
  | f :: r => f.cells + Ty.cellsAll r
end
/-- The cells of a variable, in one. -/
def Ty.join : Ty → List AV → AV
  | .agg _, as => .agg as
  | _, as => oneA as
mutual
def Ty.Wf : Ty → List AV → Prop
  | .bool, as => ∃ b, as = [.bool b]
  | .int k, as => ∃ n, as = [.int k n] ∧ (Lit.int k n).wf = true
  | .str, as => ∃ s : List UInt8, as = [.str s] ∧ s.length ≤ maxLen
  | .slice e, as => ∃ rows : List (List AV), as = [.tree (rows.map e.join)] ∧ rows.length ≤ maxLen ∧ ∀ r ∈ rows, e.Wf r
  | .agg fs, as => Ty.WfAll fs as
def Ty.WfAll : List Ty → List AV → Prop
  | [], as => as = []
  | f :: r, as => ∃ a b, as = a ++ b ∧ f.Wf a ∧ Ty.WfAll r b
end
mutual
inductive HasTy (P : Program) : TypeId → Ty → Prop
  | bool {t : TypeId} : P.underlying t = some .bool → HasTy P t .bool
  | int {t : TypeId} {k : IntKind} : P.underlying t = some (.int k) → HasTy P t (.int k)
  | str {t : TypeId} : P.underlying t = some .string → HasTy P t .str
  | slice {t e : TypeId} {te : Ty} : P.underlying t = some (.slice e) → HasTy P e te → P.cellsOf e = te.cells → 0 < te.cells → HasTy P t (.slice te)
  | struct {t : TypeId} {fs : Array Field} {tys : List Ty} : P.underlying t = some (.struct fs) → P.cellsOf t = Ty.cellsAll tys → HasFs P 0 fs.toList tys → HasTy P t (.agg tys)
  | array {t e : TypeId} {n : Nat} {te : Ty} : P.underlying t = some (.array n e) → P.cellsOf t = n * te.cells → HasTy P e te → P.cellsOf e = te.cells → HasTy P t (.agg (List.replicate n te))
inductive HasFs (P : Program) : Nat → List Field → List Ty → Prop
  | nil {o : Nat} : HasFs P o [] []
  | cons {o : Nat} {f : Field} {ty : Ty} {fs : List Field} {tys : List Ty} : f.offset = o → HasTy P f.type ty → P.cellsOf f.type = ty.cells → HasFs P (o + ty.cells) fs tys → HasFs P o (f :: fs) (ty :: tys)
end

/-- What is there, all of it. -/
def phiW (w : World) : Phi := fun b o => w.cell? ⟨b, o, none⟩

theorem Rs.len {Φ : Phi} {m : LMap} {vs : List AV} {xs : List Value} (h : Rs Φ m vs xs) : vs.length = xs.length := h.1
theorem allOne_append {a b : List AV} : allOneCell (a ++ b) = (allOneCell a && allOneCell b) := by
  induction a with
  | nil => simp [allOneCell]
  | cons x r ih => simp [allOneCell, ih, Bool.and_assoc]
mutual
theorem Ty.Wf.one : ∀ {ty : Ty} {as : List AV}, ty.Wf as → allOneCell as = true ∧ as.length = ty.cells
  | .bool, as, h => by obtain ⟨b, rfl⟩ := h; exact ⟨rfl, rfl⟩
  | .int k, as, h => by obtain ⟨n, rfl, _⟩ := h; exact ⟨rfl, rfl⟩
  | .str, as, h => by obtain ⟨n, rfl, _⟩ := h; exact ⟨rfl, rfl⟩
  | .slice e, as, h => by obtain ⟨n, rfl, _⟩ := h; exact ⟨rfl, rfl⟩
  | .agg fs, as, h => by
    simp only [Ty.Wf, Ty.cells] at h ⊢
    exact Ty.WfAll.one h
theorem Ty.WfAll.one : ∀ {tys : List Ty} {as : List AV}, Ty.WfAll tys as → allOneCell as = true ∧ as.length = Ty.cellsAll tys
  | [], as, h => by simp only [Ty.WfAll] at h; subst h; exact ⟨rfl, rfl⟩
  | f :: r, as, h => by
    simp only [Ty.WfAll] at h
    obtain ⟨a, b, rfl, ha, hb⟩ := h
    have h1 := ha.one; have h2 := Ty.WfAll.one hb
    simp only [Ty.cellsAll, List.length_append, allOne_append, h1.1, h2.1, h1.2, h2.2, Bool.and_self, and_self]
end
theorem Ty.join_cells {ty : Ty} {as : List AV} (h : ty.Wf as) : (ty.join as).cells = as := by
  have := h.one
  cases ty <;> simp only [Ty.join, Ty.cells] at *
  case agg => rfl
  all_goals
    obtain ⟨x, rfl⟩ := List.length_eq_one_iff.1 this.2
    simp only [allOneCell, Bool.and_true] at this
    have h1 := this.1
    cases x <;> simp_all [oneA, AV.cells, isOneCell]

section
variable {H : Type} {enc : TypeId × Value → H} {P : Program} {w : World} {base : Nat} {spare : Nat → Bool} {held : Bool}
theorem mapM_range {β : Type} {n : Nat} {f : Nat → Option β} {r : List β} (h : (List.range n).mapM f = some r) : r.length = n ∧ ∀ i, i < n → ∃ y, r[i]? = some y ∧ f i = some y := by
  have hl : r.length = n := by simpa using mapM_some_length h
  refine ⟨hl, fun i hi => ?_⟩
  have := mapM_some_get h i i (by simp [hi])
  exact ⟨r[i]'(by omega), by simp [hl, hi], by rw [this]; simp [hl, hi]⟩

mutual
theorem trod_wf (ty : Ty) (t : TypeId) (ht : HasTy P t ty) : ∀ {fuel : Nat} {cs : List Value} {x : DataW H × List MemPlace}, DataW.trod enc P w base spare held fuel t cs = some x → ∃ as, ty.Wf as ∧ Rs (phiW w) m0 as cs := by
  intro fuel cs x h
  cases fuel with
  | zero => simp [DataW.trod] at h
  | succ n =>
    cases ht with
    | bool hu =>
      obtain ⟨b, rfl, _⟩ := DataW.trod_bool hu h
      exact ⟨[.bool b], ⟨b, rfl⟩, .cons (.bool b) .nil⟩
    | int hu =>
      obtain ⟨n', rfl, _, hw⟩ := DataW.trod_int hu h
      exact ⟨[.int _ n'], ⟨n', rfl, hw⟩, .cons (.int _ n') .nil⟩
    | str hu =>
      obtain ⟨s, rfl, _, hs⟩ := DataW.trod_string hu h
      exact ⟨[.str s.data.toList], ⟨_, rfl, by simpa using hs⟩, .cons (.str rfl) .nil⟩
    | slice hu he hc hp =>
      rename_i e te
      rcases DataW.trod_slice hu h with ⟨rfl, _⟩ | ⟨a, len, cap, elems, rest, m, hnm, rfl, _, hb, hlc, hcm, hl, hget, _⟩
      · exact ⟨[.tree []], ⟨[], rfl, by simp, by simp⟩, .cons .tree0 .nil⟩
      · obtain rfl : n = m := by omega
        rw [hc] at hget
        have hall : ∀ i, i < len → ∃ (as : List AV) (ys : List Value), te.Wf as ∧ w.cells? base (a.add (i * te.cells)) te.cells = some ys ∧ Rs (phiW w) m0 as ys := by
          intro i hi
          have hy := hget i hi
          rw [List.getElem?_eq_getElem (by omega)] at hy
          cases hcs : w.cells? base (a.add (i * te.cells)) te.cells with
          | none => rw [hcs] at hy; simp at hy
          | some ys =>
            rw [hcs] at hy
            obtain ⟨as, h1, h2⟩ := trod_wf te e he (by simpa using hy)
            exact ⟨as, ys, h1, rfl, h2⟩
        by_cases h0 : len = 0
        · subst h0
          exact ⟨[.tree []], ⟨[], rfl, by simp, by simp⟩, .cons .tree0 .nil⟩
        · -- one row after the other
            have hspot : a.spot = none := by
              obtain ⟨as, ys, h1, h2, h3⟩ := hall 0 (by omega)
              have h4 := (World.cells?_some h2).2.2 0 hp
              have hly := (World.cells?_some h2).2.1
              have h5 : ys[0]? = some (ys[0]'(by omega)) := by simp [hly, hp]
              rw [h5] at h4
              have : (a.add (0 * te.cells)).add 0 = a := by simp [Addr.add]
              rw [this] at h4
              obtain ⟨b, o, sp⟩ := a
              exact World.cell?_spot h4
            obtain ⟨b, off, sp⟩ := a
            simp only at hspot
            subst hspot
            let row (i : Nat) : List AV := if hi : i < len then (hall i hi).choose else []
            have hrow : ∀ i (hi : i < len), te.Wf (row i) ∧ ∃ ys, w.cells? base (Addr.add ⟨b, off, none⟩ (i * te.cells)) te.cells = some ys ∧ Rs (phiW w) m0 (row i) ys := by
              intro i hi
              obtain ⟨ys, h1, h2, h3⟩ := (hall i hi).choose_spec
              simp only [row, dif_pos hi]
              exact ⟨h1, ys, h2, h3⟩
            let val (i j : Nat) : Value := ((w.cell? ⟨b, off + i * te.cells + j, none⟩).getD (.bool false))
            have hcell : ∀ i (hi : i < len) j (c : AV), (row i)[j]? = some c → w.cell? ⟨b, off + i * te.cells + j, none⟩ = some (val i j) ∧ R (phiW w) m0 c (val i j) := by
              intro i hi j c hj
              obtain ⟨hw, ys, h1, h2⟩ := hrow i hi
              obtain ⟨y, hy, hr⟩ := h2.2 j c hj
              have hlt : j < te.cells := by
                have := (List.getElem?_eq_some_iff.1 hj).1
                rw [hw.one.2] at this; exact this
              have h3 := (World.cells?_some h1).2.2 j hlt
              have h4 : (Addr.add ⟨b, off, none⟩ (i * te.cells)).add j = ⟨b, off + i * te.cells + j, none⟩ := by
                rw [WideShapes.add_plain, WideShapes.add_plain]
              rw [h4, hy] at h3
              refine ⟨?_, ?_⟩
              · simp only [val, h3, Option.getD_some]
              · simp only [val, h3, Option.getD_some]; exact hr
            refine ⟨[.tree ((List.range len).map fun i => te.join (row i))], ⟨(List.range len).map row, by simp, by simp; omega, ?_⟩, .cons ?_ .nil⟩
            · intro r hr
              simp only [List.mem_map, List.mem_range] at hr
              obtain ⟨i, hi, rfl⟩ := hr
              exact (hrow i hi).1
            · have hidx : ∀ (i : Nat) (v : AV), ((List.range len).map fun i => te.join (row i))[i]? = some v → i < len ∧ v.cells = row i := by
                intro i v hv
                have hi : i < len := by
                  have := (List.getElem?_eq_some_iff.1 hv).1
                  simpa using this
                simp [List.getElem?_range hi] at hv
                subst hv
                exact ⟨hi, Ty.join_cells (hrow i hi).1⟩
              have key := R.tree (Φ := phiW w) (m := m0) (xs := (List.range len).map fun i => te.join (row i)) (b := b) (off := off) (cap := cap) te.cells val (by simpa using hlc)
                (fun i v hv => by rw [(hidx i v hv).2]; exact (hrow i (hidx i v hv).1).1.one.2)
                (fun i v j c hv hc' => by rw [(hidx i v hv).2] at hc'; exact (hcell i (hidx i v hv).1 j c hc').1)
                (fun i v j c hv hc' => by rw [(hidx i v hv).2] at hc'; exact (hcell i (hidx i v hv).1 j c hc').2)
                (fun i v hv => by rw [(hidx i v hv).2]; exact (hrow i (hidx i v hv).1).1.one.1)
              simpa using key
    | struct hu hc hf =>
      rename_i fs tys
      unfold DataW.trod at h; rw [hu] at h
      simp only at h
      split at h
      · rename_i hlen
        cases hm : fs.toList.mapM (fun f => DataW.trod enc P w base spare held n f.type ((cs.drop f.offset).take (P.cellsOf f.type))) with
        | none => rw [hm] at h; simp at h
        | some xs =>
          obtain ⟨as, h1, h2⟩ := trodFs_wf tys 0 fs.toList hf hm (by omega)
          exact ⟨as, h1, by simpa using h2⟩
      · simp at h
    | array hu hc he hec =>
      rename_i e m te
      unfold DataW.trod at h; rw [hu] at h
      simp only at h
      split at h
      · rename_i hlen
        cases hm : (List.range m).mapM (fun i => DataW.trod enc P w base spare held n e ((cs.drop (i * P.cellsOf e)).take (P.cellsOf e))) with
        | none => rw [hm] at h; simp at h
        | some xs =>
          obtain ⟨_, hget⟩ := mapM_range hm
          have hall : ∀ k i, i + k = m → ∃ as, Ty.WfAll (List.replicate k te) as ∧ Rs (phiW w) m0 as (cs.drop (i * te.cells)) := by
            intro k
            induction k with
            | zero =>
              intro i hi
              refine ⟨[], rfl, ?_⟩
              rw [List.drop_eq_nil_of_le (by rw [hlen, hc]; exact Nat.mul_le_mul_right _ (by omega))]
              exact .nil
            | succ k ih =>
              intro i hi
              obtain ⟨as, h1, h2⟩ := ih (i + 1) (by omega)
              obtain ⟨y, _, hy⟩ := hget i (by omega)
              obtain ⟨a, h3, h4⟩ := trod_wf te e he hy
              refine ⟨a ++ as, by simp only [List.replicate_succ, Ty.WfAll]; exact ⟨a, as, rfl, h3, h1⟩, ?_⟩
              have hs : cs.drop (i * te.cells) = (cs.drop (i * te.cells)).take te.cells ++ cs.drop ((i + 1) * te.cells) := by
                rw [show (i + 1) * te.cells = i * te.cells + te.cells by rw [Nat.add_mul, Nat.one_mul], ← List.drop_drop, List.take_append_drop]
              rw [hs]
              rw [hec] at h4
              exact h4.append h2
          obtain ⟨as, h1, h2⟩ := hall m 0 (by omega)
          exact ⟨as, by simpa only [Ty.Wf] using h1, by simpa using h2⟩
      · simp at h
theorem trodFs_wf (tys : List Ty) (o : Nat) (fs : List Field) (hf : HasFs P o fs tys) : ∀ {n : Nat} {cs : List Value} {xs : List (DataW H × List MemPlace)},
    fs.mapM (fun f => DataW.trod enc P w base spare held n f.type ((cs.drop f.offset).take (P.cellsOf f.type))) = some xs → cs.length = o + Ty.cellsAll tys → ∃ as, Ty.WfAll tys as ∧ Rs (phiW w) m0 as (cs.drop o) := by
  intro n cs xs h hlen
  cases hf with
  | nil =>
    refine ⟨[], rfl, ?_⟩
    rw [List.drop_eq_nil_of_le (by rw [hlen]; simp [Ty.cellsAll])]
    exact .nil
  | cons ho ht hc hr =>
    rename_i f ty fs tys
    rw [List.mapM_cons] at h
    cases h1 : DataW.trod enc P w base spare held n f.type ((cs.drop f.offset).take (P.cellsOf f.type)) with
    | none => rw [h1] at h; simp at h
    | some y =>
      rw [h1] at h
      cases h2 : fs.mapM (fun f => DataW.trod enc P w base spare held n f.type ((cs.drop f.offset).take (P.cellsOf f.type))) with
      | none => rw [h2] at h; simp at h
      | some ys =>
        obtain ⟨a, h3, h4⟩ := trod_wf ty f.type ht h1
        obtain ⟨as, h5, h6⟩ := trodFs_wf tys (o + ty.cells) fs hr h2 (by rw [hlen]; simp [Ty.cellsAll]; omega)
        refine ⟨a ++ as, by simp only [Ty.WfAll]; exact ⟨a, as, rfl, h3, h5⟩, ?_⟩
        have hs : cs.drop o = (cs.drop o).take ty.cells ++ cs.drop (o + ty.cells) := by
          rw [← List.drop_drop, List.take_append_drop]
        rw [hs]
        rw [ho, hc] at h4
        exact h4.append h6
end

theorem Rs.single {Φ : Phi} {m : LMap} {as : List AV} {v : Value} (h : Rs Φ m as [v]) : ∃ a, as = [a] ∧ R Φ m a v := by
  obtain ⟨a, rfl⟩ := List.length_eq_one_iff.1 (by simpa using h.1)
  obtain ⟨x, r, he, hr, _⟩ := h.inv_cons
  cases he
  exact ⟨a, rfl, hr⟩
theorem okWide_agg {w : World} {r : Reach} {b : Nat} {t : TypeId} {v : Value} (h : Value.okWide P w r b t v) (ht : (∃ fs, P.underlying t = some (.struct fs)) ∨ ∃ n e, P.underlying t = some (.array n e)) : ∃ cs, v = .agg cs := by
  unfold Value.okWide at h
  rcases ht with ⟨fs, ht⟩ | ⟨n, e, ht⟩ <;> rw [ht] at h <;> exact ⟨h.choose, h.choose_spec.1⟩
/-- An argument of plain data. -/
theorem arg_R {w' : World} {r : Reach} {b : Nat} {ty : Ty} {t : TypeId} (ht : HasTy P t ty) {v : Value} {d : DataW H} {ps : List MemPlace} (hval : Value.okWide P w' r b t v) (hd : DataW.Trod enc P w base spare held t v d ps) :
    ∃ as, ty.Wf as ∧ R (phiW w) m0 (ty.join as) v := by
  obtain ⟨fuel, hf⟩ := hd
  obtain ⟨as, h1, h2⟩ := trod_wf ty t ht hf
  refine ⟨as, h1, ?_⟩
  cases ht with
  | bool hu =>
    obtain ⟨x, rfl⟩ := WideShapes.okWide_bool hu hval
    obtain ⟨a, rfl, hr⟩ := Rs.single (v := .bool x) (by simpa [Value.cells] using h2)
    exact hr
  | int hu =>
    obtain ⟨x, rfl⟩ := WideShapes.okWide_int hu hval
    obtain ⟨a, rfl, hr⟩ := Rs.single (v := .int _ x) (by simpa [Value.cells] using h2)
    exact hr
  | str hu =>
    obtain ⟨x, rfl⟩ := WideShapes.okWide_string hu hval
    obtain ⟨a, rfl, hr⟩ := Rs.single (v := .string x) (by simpa [Value.cells] using h2)
    exact hr
  | slice hu _ _ _ =>
    obtain ⟨x, y, z, rfl⟩ := WideShapes.okWide_slice hu hval
    obtain ⟨a, rfl, hr⟩ := Rs.single (v := .slice x y z) (by simpa [Value.cells] using h2)
    exact hr
  | struct hu _ _ =>
    obtain ⟨cs, rfl⟩ := okWide_agg hval (.inl ⟨_, hu⟩)
    exact R.aggs (by simpa [Value.cells] using h2)
  | array hu _ _ _ =>
    obtain ⟨cs, rfl⟩ := okWide_agg hval (.inr ⟨_, _, hu⟩)
    exact R.aggs (by simpa [Value.cells] using h2)

/-- What was handed reads as it did. -/
theorem args_back {W W' : World} (hl : laidOutB P = true) (hm : mapsRowed P = true)
    (hz : ((List.range P.types.size).all fun t => match P.underlying t with | some (.slice e) => decide (0 < P.cellsOf e) | _ => true) = true)
    {ts : List TypeId} {vs : List Value} {ds : List (DataW H)} {ps : List MemPlace} (hT : ∀ t ∈ ts, t < P.types.size) (h : DataW.TrodAll enc P W 0 (fun _ => true) true ts vs ds ps)
    (hlt : ∀ p ∈ ps, p.block < W.heap.size) (hk : Kept W W') {sp : Nat → Bool} (hs : ∀ p ∈ ps, sp p.block = true) : DataW.TrodAll enc P W' 0 sp true ts vs ds ps := by
  have h1 := h.respare (kids_rows hl hm) (fun t e hte => slices_full_of P hz t e hte) hT hs
  clear hT h hs
  induction ts generalizing vs ds ps with
  | nil =>
    obtain ⟨rfl, rfl, rfl⟩ := ChangeShapes.trodAll_nil h1
    exact h1
  | cons t ts ih =>
    obtain ⟨v, vs', d, ds', p, q, rfl, rfl, rfl, ⟨n, hd⟩, hr⟩ := ChangeShapes.trodAll_cons h1
    refine ⟨p, q, ⟨n, DataW.trod_carry n _ _ _ hd fun x hx => ?_⟩, ih (fun x hx => hlt x (List.mem_append_right _ hx)) hr, rfl⟩
    have hb := hlt x (List.mem_append_left _ hx)
    cases x with
    | cell b off =>
      simp only [World.sameAt, World.cell?]
      rw [hk.same b hb]
    | map b => exact hk.same b hb
end
/-! ### As plain data -/
theorem wf_rows {T : Type} (enc : T → AV) (ok : T → Prop) {e : Ty} (h : ∀ as, e.Wf as → ∃ x, e.join as = enc x ∧ ok x) {as : List AV} (hw : (Ty.slice e).Wf as) : ∃ l : List T, (Ty.slice e).join as = .tree (l.map enc) ∧ (∀ x ∈ l, ok x) ∧ l.length ≤ maxLen := by
  obtain ⟨rows, rfl, hlen, hr⟩ := hw
  suffices ∃ l : List T, rows.map e.join = l.map enc ∧ ∀ x ∈ l, ok x by
    obtain ⟨l, h1, h2⟩ := this
    refine ⟨l, by simp only [Ty.join, oneA, h1], h2, ?_⟩
    have := congrArg List.length h1
    simp only [List.length_map] at this
    omega
  clear hlen
  induction rows with
  | nil => exact ⟨[], rfl, by simp⟩
  | cons r rs ih =>
    obtain ⟨l, h1, h2⟩ := ih (fun x hx => hr x (List.mem_cons_of_mem _ hx))
    obtain ⟨x, h3, h4⟩ := h r (hr r List.mem_cons_self)
    exact ⟨x :: l, by simp [h1, h3], by simpa using ⟨h4, h2⟩⟩
def okI (n : Int) : Prop := -9223372036854775808 ≤ n ∧ n ≤ 9223372036854775807
theorem wf_i64 {as : List AV} (h : (Ty.int .i64).Wf as) : ∃ n, (Ty.int .i64).join as = encI n ∧ okI n := by
  obtain ⟨n, rfl, hw⟩ := h
  exact ⟨n, rfl, by simpa [Lit.wf, IntKind.min, IntKind.max, IntKind.bits, IntKind.signed, okI] using hw⟩
theorem wf_u8 {as : List AV} (h : (Ty.int .u8).Wf as) : ∃ c : UInt8, (Ty.int .u8).join as = encB c ∧ True := by
  obtain ⟨n, rfl, hw⟩ := h
  have h2 : 0 ≤ n ∧ n ≤ 255 := by simpa [Lit.wf, IntKind.min, IntKind.max, IntKind.bits, IntKind.signed] using hw
  refine ⟨UInt8.ofNat n.toNat, ?_, trivial⟩
  simp only [Ty.join, oneA, encB, AV.int.injEq, true_and, UInt8.toNat_ofNat']
  omega
def encStr (s : List UInt8) : AV := .str s
theorem wf_str {as : List AV} (h : Ty.str.Wf as) : ∃ s, Ty.str.join as = encStr s ∧ s.length ≤ maxLen := by
  obtain ⟨s, rfl, hw⟩ := h
  exact ⟨s, rfl, hw⟩
theorem wf_q4 {as : List AV} (h : (Ty.agg (List.replicate 4 (.int .u8))).Wf as) : ∃ q : Q4, (Ty.agg (List.replicate 4 (.int .u8))).join as = encQ4 q ∧ True := by
  simp only [List.replicate, Ty.Wf, Ty.WfAll] at h
  obtain ⟨a, r, rfl, ⟨n0, rfl, h0⟩, b, r', rfl, ⟨n1, rfl, h1⟩, c, r2, rfl, ⟨n2, rfl, h2⟩, d, r3, rfl, ⟨n3, rfl, h3⟩, rfl⟩ := h
  obtain ⟨x0, e0, _⟩ := wf_u8 ⟨n0, rfl, h0⟩
  obtain ⟨x1, e1, _⟩ := wf_u8 ⟨n1, rfl, h1⟩
  obtain ⟨x2, e2, _⟩ := wf_u8 ⟨n2, rfl, h2⟩
  obtain ⟨x3, e3, _⟩ := wf_u8 ⟨n3, rfl, h3⟩
  simp only [Ty.join, oneA, encB] at e0 e1 e2 e3
  exact ⟨⟨x0, x1, x2, x3⟩, by simp [Ty.join, encQ4, e0, e1, e2, e3], trivial⟩
end Go.Ab
