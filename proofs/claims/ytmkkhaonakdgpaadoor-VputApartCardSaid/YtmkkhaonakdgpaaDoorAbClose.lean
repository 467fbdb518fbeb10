/- A value by itself: what it names of the frame's blocks, as what never changes any more. -/
import Derived.Test.YtmkkhaonakdgpaaDoorAbRows
namespace Go.Ab
open Go
section
variable {Φg Φ Φ' Φ₀ : Phi} {m m' i₀ μ : LMap} {w w' w₀ : World} {H : Heap}

theorem R.noref {v : AV} {x : Value} (h : R Φ m v x) : ∀ {Φ' : Phi} {μ : LMap}, AV.hasRef v = false → (∀ b o y, Φ b o = some y → Φ' b o = some y) → R Φ' μ v x := by
  have lst : ∀ (l : List AV), AV.hasRefs l = false → ∀ (j : Nat) (v : AV), l[j]? = some v → AV.hasRef v = false := by
    intro l
    induction l with
    | nil => intro _ j v hv; simp at hv
    | cons c r ih =>
      intro hl j v hv
      simp only [AV.hasRefs, Bool.or_eq_false_iff] at hl
      cases j with
      | zero => simp at hv; subst hv; exact hl.1
      | succ j => exact ih hl.2 j v (by simpa using hv)
  induction h with
  | bool b => exact fun _ _ => .bool b
  | int k n => exact fun _ _ => .int k n
  | str h => exact fun _ _ => .str h
  | nilp => exact fun _ _ => .nilp
  | raw h => exact fun _ _ => .raw h
  | nils => exact fun h => by simp [AV.hasRef] at h
  | nilf => exact fun _ _ => .nilf
  | nili => exact fun _ _ => .nili
  | iface _ ih => exact fun h e => .iface (ih (by simpa [AV.hasRef] using h) e)
  | func h1 h2 _ _ ih1 ih2 =>
    exact fun h e => by
      simp only [AV.hasRef, Bool.or_eq_false_iff] at h
      exact .func h1 h2 (fun j v x hv hx => ih1 j v x hv hx (lst _ h.1 j v hv) e) (fun j v x hv hx => ih2 j v x hv hx (lst _ h.2 j v hv) e)
  | agg h1 _ ih => exact fun h e => .agg h1 (fun j v x hv hx => ih j v x hv hx (lst _ (by simpa [AV.hasRef] using h) j v hv) e)
  | tuple h1 _ ih => exact fun h e => .tuple h1 (fun j v x hv hx => ih j v x hv hx (lst _ (by simpa [AV.hasRef] using h) j v hv) e)
  | tree0 => exact fun _ _ => .tree0
  | tree esz f h1 h2 h3 h4 h5 _ => exact fun _ e => .tree esz f h1 h2 (fun i v j c hv hc => e _ _ _ (h3 i v j c hv hc)) (fun i v j c hv hc => (h4 i v j c hv hc).mono ⟨e, fun _ _ _ _ h => h⟩) h5
  | cptr f h1 h2 _ => exact fun _ e => .cptr f (fun j c hc => e _ _ _ (h1 j c hc)) (fun j c hc => (h2 j c hc).mono ⟨e, fun _ _ _ _ h => h⟩)
  | ref h => exact fun h => by simp [AV.hasRef] at h
  | sref0 => exact fun h => by simp [AV.hasRef] at h
  | sref h h1 h2 => exact fun h => by simp [AV.hasRef] at h
  | top => exact fun h => by simp [AV.hasRef] at h

def Blk.body : Blk → Nat
  | .box v _ => v.cells.length
  | .row e xs _ _ => xs.length * e
  | .gone => 0
open Classical in
/-- What never changes any more, with the blocks of a row of names. -/
noncomputable def frzPhi (Φ : Phi) (m : LMap) (w : World) (H : Heap) (L : List Site) : Phi := fun b o =>
  if ∃ s B e z, s ∈ L ∧ hget H s = some B ∧ m s = .at b e z ∧ o < B.body then w.cell? ⟨b, o, none⟩ else Φ b o
theorem frzPhi_old {L : List Site} (hI : Inv Φ m w H) {b o : Nat} {x : Value} (h : Φ b o = some x) : frzPhi Φ m w H L b o = some x := by
  unfold frzPhi
  split
  · exact hI.phi b o x h
  · exact h
theorem frzPhi_in {L : List Site} {s : Site} {B : Blk} {b e o : Nat} {z : Nat × Nat} (hs : s ∈ L) (hB : hget H s = some B) (hm : m s = .at b e z) (ho : o < B.body) : frzPhi Φ m w H L b o = w.cell? ⟨b, o, none⟩ := by
  unfold frzPhi
  rw [if_pos ⟨s, B, e, z, hs, hB, hm, ho⟩]
theorem frzPhi_valid {L : List Site} (hI : Inv Φ m w H) {b o : Nat} {x : Value} (h : frzPhi Φ m w H L b o = some x) : w.cell? ⟨b, o, none⟩ = some x := by
  unfold frzPhi at h
  split at h
  · exact h
  · exact hI.phi b o x h
theorem frzPhi_mono {L L' : List Site} (hI : Inv Φ m w H) (hL : ∀ s ∈ L, s ∈ L') {b o : Nat} {x : Value} (h : frzPhi Φ m w H L b o = some x) : frzPhi Φ m w H L' b o = some x := by
  have hv := frzPhi_valid hI h
  unfold frzPhi at h ⊢
  split
  · exact hv
  · rename_i hn
    split at h
    · rename_i hy
      obtain ⟨s, B, e, z, h1, h2⟩ := hy
      exact absurd ⟨s, B, e, z, hL s h1, h2⟩ hn
    · exact h
theorem frzPhi_ext {L : List Site} (hI : Inv Φ m w H) : Ext Φ m (frzPhi Φ m w H L) m := ⟨fun _ _ _ h => frzPhi_old hI h, fun _ _ _ _ h => h⟩

/-- The names that a value by itself may still bear. -/
def Keeps (all : Bool) (m μ : LMap) : Prop := all = false → ∀ i b e z, m (.inc i) = .at b e z → μ (.inc i) = .at b e z

theorem hasRefs_at : ∀ {l : List AV} {j : Nat} {v : AV}, AV.hasRefs l = false → l[j]? = some v → AV.hasRef v = false
  | [], _, _, _, h => by simp at h
  | c :: r, 0, v, hl, h => by
    simp only [AV.hasRefs, Bool.or_eq_false_iff] at hl
    simp at h; subst h; exact hl.1
  | c :: r, j + 1, v, hl, h => by
    simp only [AV.hasRefs, Bool.or_eq_false_iff] at hl
    exact hasRefs_at hl.2 (by simpa using h)
theorem hasRef_cells {v : AV} (h : AV.hasRef v = false) {j : Nat} {c : AV} (hc : v.cells[j]? = some c) : AV.hasRef c = false := by
  by_cases hag : ∃ cs, v = .agg cs
  · obtain ⟨cs, rfl⟩ := hag
    exact hasRefs_at (by simpa [AV.hasRef] using h) (by simpa [AV.cells] using hc)
  · have hcl : v.cells = [v] := by cases v <;> first | rfl | exact absurd ⟨_, rfl⟩ hag
    rw [hcl] at hc
    cases j with
    | zero => simp at hc; subst hc; exact h
    | succ j => simp at hc

/-- A box that does not change any more: a pointer to it. -/
theorem cptr_of {L : List Site} {st : Site} {v u : AV} {wr : Bool} {b e : Nat} {xs : List Value} (hg : hget H st = some (.box v wr)) (hbox : BoxOk Φ m w st v wr b e) (hs : st ∈ L)
    (hxs : ∀ j x, xs[j]? = some x → w.cell? ⟨b, j, none⟩ = some x) (hr : Rs (frzPhi Φ m w H L) m0 u.cells xs) (hlen : xs.length = v.cells.length) : R (frzPhi Φ m w H L) μ (.cptr u) (.pointer (some ⟨b, 0, none⟩)) := by
  refine .cptr (fun j => xs.getD j default) (fun j c hc => ?_) (fun j c hc => ?_)
  · obtain ⟨x, hx, _⟩ := hr.2 j c hc
    have hj : j < xs.length := (List.getElem?_eq_some_iff.1 hx).1
    rw [Nat.zero_add, frzPhi_in hs hg hbox.loc (by simp only [Blk.body]; omega), hxs j x hx, List.getD_eq_getElem?_getD, hx]
    rfl
  · obtain ⟨x, hx, hxr⟩ := hr.2 j c hc
    rw [List.getD_eq_getElem?_getD, hx]
    exact hxr

mutual
theorem closeV_ok (hI : Inv Φ m w H) : ∀ {all : Bool} {n : Nat} {L : List Site} {v v' : AV} {L' : List Site} {x : Value}, closeV H all n L v = some (v', L') → R Φ m v x →
    (∀ s ∈ L, s ∈ L') ∧ ∀ {μ : LMap} {L'' : List Site}, Keeps all m μ → (∀ s ∈ L', s ∈ L'') → R (frzPhi Φ m w H L'') μ v' x
  | _, 0, _, _, _, _, _, h, _ => by simp [closeV] at h
  | all, n + 1, L, v, v', L', x, h, hr => by
    unfold closeV at h
    cases hh : AV.hasRef v with
    | false =>
      rw [hh] at h
      simp only [cond_false, Option.some.injEq, Prod.mk.injEq] at h
      obtain ⟨rfl, rfl⟩ := h
      exact ⟨fun _ h => h, fun {μ L''} _ hL => hr.noref hh (fun _ _ _ h => frzPhi_old hI h)⟩
    | true =>
      rw [hh] at h
      simp only [cond_true] at h
      split at h
      · -- a struct
        obtain ⟨xs, rfl, hrs⟩ := hr.agg_inv
        split at h
        · rename_i l L1 hl
          cases h
          obtain ⟨h1, h2⟩ := closeVs_ok hI hl hrs
          exact ⟨h1, fun hk hL => .aggs (h2 hk hL)⟩
        · cases h
      · obtain ⟨xs, rfl, hrs⟩ := hr.tuple_inv
        split at h
        · rename_i l L1 hl
          cases h
          obtain ⟨h1, h2⟩ := closeVs_ok hI hl hrs
          exact ⟨h1, fun hk hL => .tuples (h2 hk hL)⟩
        · cases h
      · split at h
        · rename_i l L1 hl
          cases h
          cases hr with
          | iface hr =>
            obtain ⟨h1, h2⟩ := closeV_ok hI hl hr
            exact ⟨h1, fun hk hL => .iface (h2 hk hL)⟩
        · cases h
      · split at h
        · rename_i l1 L1 hl1
          split at h
          · rename_i l2 L2 hl2
            cases h
            obtain ⟨xs, ys, rfl, hr1, hr2⟩ := hr.func_inv
            obtain ⟨h1, h2⟩ := closeVs_ok hI hl1 hr1
            obtain ⟨h3, h4⟩ := closeVs_ok hI hl2 hr2
            exact ⟨fun s hs => h3 s (h1 s hs), fun hk hL => .funcs (h2 hk fun s hs => hL s (h3 s hs)) (h4 hk hL)⟩
          · cases h
        · cases h
      · cases h
        cases hr with
        | nils => exact ⟨fun _ h => h, fun _ _ => .tree0⟩
      · -- a pointer
        rename_i st i o
        cases hb : (!all && st.isInc) with
        | true =>
          rw [hb] at h
          cases h
          simp only [Bool.and_eq_true, Bool.not_eq_true'] at hb
          cases hr with
          | ref hm =>
            cases st <;> simp [Site.isInc] at hb
            exact ⟨fun _ h => h, fun hk _ => .ref (hk hb _ _ _ _ hm)⟩
        | false =>
          rw [hb] at h
          simp only [cond_false] at h
          split at h
          · rename_i u wr hg
            cases hr with
            | ref hm =>
              rename_i b e z
              obtain ⟨b', e', hbox⟩ := hI.blk _ _ hg
              have hl := hbox.loc
              rw [hm] at hl
              cases hl
              obtain ⟨xs, hxs, hcs⟩ := hbox.lies.list
              have hcs' : ∀ j x, xs[j]? = some x → w.cell? ⟨b, j, none⟩ = some x := fun j x hx => by have := hcs j x hx; rwa [Nat.zero_add] at this
              have hlen : xs.length = u.cells.length := hxs.1.symm
              rw [Nat.zero_mul, Nat.zero_add]
              cases hhu : AV.hasRef u with
              | false =>
                rw [hhu] at h
                cases h
                exact ⟨fun s hs => List.mem_cons_of_mem _ hs, fun {μ L''} _ hL => cptr_of hg hbox (hL _ (List.mem_cons_self ..)) hcs'
                  (Rs.mk' hxs.1 fun j c x hc hx => (hxs.at hc hx).noref (hasRef_cells hhu hc) (fun _ _ _ h => frzPhi_old hI h)) hlen⟩
              | true =>
                rw [hhu] at h
                simp only [cond_true] at h
                split at h
                · rename_i cs
                  split at h
                  · rename_i cs' L1 hcl
                    cases h
                    obtain ⟨h1, h2⟩ := closeVs_ok hI hcl (xs := xs) (by simpa [AV.cells] using hxs)
                    exact ⟨fun s hs => h1 s (List.mem_cons_of_mem _ hs), fun {μ L''} _ hL => cptr_of hg hbox (hL _ (h1 _ (List.mem_cons_self ..))) hcs'
                      (by simpa [AV.cells] using h2 (μ := m0) (fun h => by cases h) hL) hlen⟩
                  · cases h
                · rename_i hna
                  have hcl : u.cells = [u] := by cases u <;> first | rfl | exact absurd rfl (hna _)
                  rw [hcl] at hxs
                  obtain ⟨y, r, rfl, hy, hys⟩ := hxs.inv_cons
                  obtain rfl := hys.inv_nil
                  split at h
                  · rename_i u' L1 hu
                    cases hone : isOneCell u' with
                    | false => rw [hone] at h; cases h
                    | true =>
                      rw [hone] at h
                      cases h
                      obtain ⟨h1, h2⟩ := closeV_ok hI hu hy
                      exact ⟨fun s hs => h1 s (List.mem_cons_of_mem _ hs), fun {μ L''} _ hL => cptr_of hg hbox (hL _ (h1 _ (List.mem_cons_self ..))) hcs'
                        (by rw [isOneCell_cells hone]; exact .cons (h2 (μ := m0) (fun h => by cases h) hL) .nil) hlen⟩
                  · cases h
          · cases h
      · -- a slice
        rename_i st lo len
        cases hb : (!all && st.isInc) with
        | true =>
          rw [hb] at h
          cases h
          simp only [Bool.and_eq_true, Bool.not_eq_true'] at hb
          cases hr with
          | sref0 => exact ⟨fun _ h => h, fun _ _ => .sref0⟩
          | sref hm h1 h2 h3 =>
            cases st <;> simp [Site.isInc] at hb
            exact ⟨fun _ h => h, fun hk _ => .sref (hk hb _ _ _ _ hm) h1 h2 h3⟩
        | false =>
          rw [hb] at h
          simp only [cond_false] at h
          split at h
          · rename_i e xs wr rm hg
            split at h
            · cases h
              refine ⟨fun s hs => List.mem_cons_of_mem _ hs, fun {μ L''} _ hL => ?_⟩
              cases hr with
              | sref0 => simpa using R.tree0
              | sref hm h1 h2 h3 =>
                rename_i cap b e' z
                rcases hI.blk _ _ hg with ⟨hn, _⟩ | ⟨b', z', hrow⟩
                · rw [hm] at hn; cases hn
                · have hl := hrow.loc
                  rw [hm] at hl
                  cases hl
                  have hlen : (xs.take len).length = len := by rw [List.length_take]; simp at h3; omega
                  have hget : ∀ i v, (xs.take len)[i]? = some v → xs[i]? = some v := fun i v hi => by
                    rw [List.getElem?_take] at hi
                    split at hi
                    · exact hi
                    · cases hi
                  have key : R (frzPhi Φ m w H L'') μ (.tree (xs.take len)) (.slice (some ⟨b, 0 * e, none⟩) (xs.take len).length cap) := by
                    refine .tree e (fun i j => (w.cell? ⟨b, i * e + j, none⟩).getD default) (by omega) (fun i v hi => hrow.each i v (hget i v hi)) (fun i v j c hi hj => ?_) (fun i v j c hi hj => ?_) (fun i v hi => hrow.one i v (hget i v hi))
                    · obtain ⟨x, hx, _⟩ := hrow.cell i v j c (hget i v hi) hj
                      have hlt := (List.getElem?_eq_some_iff.1 (hget i v hi)).1
                      have hjl := (List.getElem?_eq_some_iff.1 hj).1
                      rw [hrow.each i v (hget i v hi)] at hjl
                      have hbd : i * e + j < xs.length * e := by
                        have : (i + 1) * e ≤ xs.length * e := Nat.mul_le_mul_right e hlt
                        rw [Nat.add_mul] at this
                        omega
                      rw [show 0 * e + i * e + j = i * e + j by omega, frzPhi_in (hL _ (List.mem_cons_self ..)) hg hrow.loc (by simpa [Blk.body] using hbd), hx]
                      rfl
                    · obtain ⟨x, hx, hxr⟩ := hrow.cell i v j c (hget i v hi) hj
                      simp only [hx, Option.getD_some]
                      exact hxr.mono ⟨fun _ _ _ h => frzPhi_old hI h, fun _ _ _ _ h => h⟩
                  rwa [hlen] at key
            · cases h
          · cases h
      · cases h
theorem closeVs_ok (hI : Inv Φ m w H) : ∀ {all : Bool} {n : Nat} {L : List Site} {vs vs' : List AV} {L' : List Site} {xs : List Value}, closeVs H all n L vs = some (vs', L') → Rs Φ m vs xs →
    (∀ s ∈ L, s ∈ L') ∧ ∀ {μ : LMap} {L'' : List Site}, Keeps all m μ → (∀ s ∈ L', s ∈ L'') → Rs (frzPhi Φ m w H L'') μ vs' xs
  | _, 0, _, _, _, _, _, h, _ => by simp [closeVs] at h
  | _, n + 1, L, [], vs', L', xs, h, hr => by
    simp only [closeVs, Option.some.injEq, Prod.mk.injEq] at h
    obtain ⟨rfl, rfl⟩ := h
    rw [hr.inv_nil]
    exact ⟨fun _ h => h, fun _ _ => .nil⟩
  | all, n + 1, L, v :: r, vs', L', xs, h, hr => by
    simp only [closeVs] at h
    split at h
    · rename_i v1 L1 hv
      split at h
      · rename_i r1 L2 hr1
        cases h
        obtain ⟨x, ys, rfl, hx, hys⟩ := hr.inv_cons
        obtain ⟨h1, h2⟩ := closeV_ok hI hv hx
        obtain ⟨h3, h4⟩ := closeVs_ok hI hr1 hys
        exact ⟨fun s hs => h3 s (h1 s hs), fun hk hL => .cons (h2 hk fun s hs => hL s (h3 s hs)) (h4 hk hL)⟩
      · cases h
    · cases h
end

/-! ### Blocks that do not change any more -/
def Blk.frz : Blk → Blk
  | .box v _ => .box v false
  | .row e xs _ rm => .row e xs false rm
  | .gone => .gone
theorem frz_app (H : Heap) (s : Site) : Fx.app H (.frz s) = (match hget H s with | some B => hset H s B.frz | none => H) ∨ hget H s = some .gone := by
  simp only [Fx.app]
  split
  · rename_i hg; rw [hg]; exact .inl rfl
  · rename_i hg; rw [hg]; exact .inl rfl
  · rename_i h1 h2
    cases hg : hget H s with
    | none => exact .inl rfl
    | some B => cases B with
      | box v wr => exact absurd hg (h2 v wr)
      | row e xs wr rm => exact absurd hg (h1 e xs wr rm)
      | gone => exact .inr rfl
theorem hget_frz1 (H : Heap) (s x : Site) : hget (Fx.app H (.frz s)) x = (hget H x).map (fun B => if x = s then B.frz else B) := by
  rcases frz_app H s with h | h
  · rw [h]
    cases hg : hget H s with
    | none =>
      simp only
      by_cases hx : x = s
      · subst hx; simp [hg]
      · simp [hx]
    | some B =>
      simp only
      by_cases hx : x = s
      · subst hx; rw [hget_hset_same hg, hg]; simp
      · rw [hget_hset_ne (Ne.symm hx)]; simp [hx]
  · have : Fx.app H (.frz s) = H := by simp [Fx.app, h]
    rw [this]
    by_cases hx : x = s
    · subst hx; rw [h]; simp [Blk.frz]
    · simp [hx]
theorem Blk.frz_frz (B : Blk) : B.frz.frz = B.frz := by cases B <;> rfl
theorem hget_frz : ∀ (L : List Site) (H : Heap) (x : Site), hget (fxApp H (frzAll L)) x = (hget H x).map (fun B => if x ∈ L then B.frz else B)
  | [], H, x => by simp [frzAll, fxApp]
  | s :: r, H, x => by
    simp only [frzAll, fxApp]
    rw [hget_frz r, hget_frz1, Option.map_map]
    congr 1
    funext B
    by_cases hx : x = s
    · subst hx; by_cases hr : x ∈ r <;> simp [hr, Blk.frz_frz]
    · by_cases hr : x ∈ r <;> simp [hr, hx]
theorem Blk.frz_live (B : Blk) : B.frz.live ↔ B.live := by cases B <;> simp [Blk.frz, Blk.live]

theorem Inv.frz (L : List Site) (hI : Inv Φ m w H) : Inv (frzPhi Φ m w H L) m w (fxApp H (frzAll L)) := by
  have hp : ∀ {s : Site} {B : Blk} {b e : Nat} {z : Nat × Nat}, hget H s = some B → B.live → m s = .at b e z → s ∉ L → ∀ o, frzPhi Φ m w H L b o = Φ b o := by
    intro s B b e z hg hl hm hs o
    unfold frzPhi
    split
    · rename_i hh
      obtain ⟨s', B', e', z', h1, h2, h3, h4⟩ := hh
      have hl' : B'.live := by cases B' <;> simp_all [Blk.live, Blk.body]
      have := hI.inj _ _ _ _ _ _ _ _ _ hg h2 hl hl' hm h3
      subst this
      exact absurd h1 hs
    · rfl
  refine ⟨fun b o x h => frzPhi_valid hI h, fun s B hB => ?_, fun s hs => ?_, fun s s' B B' b e z e' z' h1 h2 h3 h4 h5 h6 => ?_, hI.lt⟩
  · rw [hget_frz] at hB
    cases hg : hget H s with
    | none => rw [hg] at hB; simp at hB
    | some C =>
      rw [hg] at hB
      simp only [Option.map_some, Option.some.injEq] at hB
      have hC := hI.blk s C hg
      subst hB
      by_cases hs : s ∈ L
      · rw [if_pos hs]
        cases C with
        | box v wr =>
          obtain ⟨b, e, h⟩ := hC
          refine ⟨b, e, h.loc, h.shape, fun j c hc => ?_, h.nf, fun h => by cases h⟩
          obtain ⟨x, hx, hr⟩ := h.cell j c hc
          exact ⟨x, hx, hr.mono (frzPhi_ext hI)⟩
        | row e xs wr rm =>
          rcases hC with hC | ⟨b, z, h⟩
          · exact .inl hC
          · refine .inr ⟨b, z, h.loc, h.pos, h.len, h.shape, h.each, fun i v j c hv hc => ?_, h.nf, (fun h => by cases h), fun o ho => ?_, h.one⟩
            · obtain ⟨x, hx, hr⟩ := h.cell i v j c hv hc
              exact ⟨x, hx, hr.mono ⟨fun _ _ _ h => frzPhi_old hI h, fun _ _ _ _ h => h⟩⟩
            · unfold frzPhi at ho
              split at ho
              · rename_i hh
                obtain ⟨s', B', e', z', h1, h2, h3, h4⟩ := hh
                have hl' : B'.live := by cases B' <;> simp_all [Blk.live, Blk.body]
                have := hI.inj s s' _ _ _ _ _ _ _ hg h2 trivial hl' h.loc h3
                subst this
                rw [hg] at h2
                cases h2
                exact h4
              · exact h.room o ho
        | gone => trivial
      · rw [if_neg hs]
        by_cases hl : C.live
        · cases C with
          | box v wr =>
            obtain ⟨b, e, h⟩ := hC
            refine ⟨b, e, h.loc, h.shape, fun j c hc => ?_, h.nf, fun hw o => by rw [hp hg hl h.loc hs]; exact h.phi hw o⟩
            obtain ⟨x, hx, hr⟩ := h.cell j c hc
            exact ⟨x, hx, hr.mono (frzPhi_ext hI)⟩
          | row e xs wr rm =>
            rcases hC with hC | ⟨b, z, h⟩
            · exact .inl hC
            · refine .inr ⟨b, z, h.loc, h.pos, h.len, h.shape, h.each, fun i v j c hv hc => ?_, h.nf, fun hw o => by rw [hp hg hl h.loc hs]; exact h.phi hw o, fun o ho => h.room o (by rw [← hp hg hl h.loc hs]; exact ho), h.one⟩
              obtain ⟨x, hx, hr⟩ := h.cell i v j c hv hc
              exact ⟨x, hx, hr.mono ⟨fun _ _ _ h => frzPhi_old hI h, fun _ _ _ _ h => h⟩⟩
          | gone => trivial
        · cases C <;> simp_all [Blk.live]; trivial
  · rw [hget_frz] at hs
    exact hI.map s (by cases hg : hget H s with | none => rfl | some C => rw [hg] at hs; simp at hs)
  · rw [hget_frz] at h1 h2
    cases hg : hget H s with
    | none => rw [hg] at h1; simp at h1
    | some C =>
      cases hg' : hget H s' with
      | none => rw [hg'] at h2; simp at h2
      | some C' =>
        rw [hg] at h1
        rw [hg'] at h2
        simp only [Option.map_some, Option.some.injEq] at h1 h2
        refine hI.inj s s' C C' b e z e' z' hg hg' ?_ ?_ h5 h6
        · subst h1; split at h3
          · exact (Blk.frz_live C).1 h3
          · exact h3
        · subst h2; split at h4
          · exact (Blk.frz_live C').1 h4
          · exact h4
theorem Glob.frz (L : List Site) (hI : Inv Φ m w H) (hG : Glob Φg Φ₀ i₀ w₀ Φ m w) : Glob Φg Φ₀ i₀ w₀ (frzPhi Φ m w H L) m w := by
  refine ⟨fun b o x h => frzPhi_old hI (hG.phi b o x h), fun b o h h0 => ?_, hG.inc, hG.own, hG.same, hG.size, hG.os, hG.out, hG.tape, hG.base⟩
  unfold frzPhi at h
  split at h
  · rename_i hh
    obtain ⟨s', B', e', z', h1, h2, h3, h4⟩ := hh
    exact hG.own _ _ _ _ h3
  · exact hG.phiNew b o h h0
end
end Go.Ab
