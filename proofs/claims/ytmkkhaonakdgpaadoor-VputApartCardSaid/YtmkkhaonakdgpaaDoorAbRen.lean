/- Other names for blocks; what lives at a loop's head. -/
import Derived.Test.YtmkkhaonakdgpaaDoorAbRow2
namespace Go.Ab
open Go
section
variable {Φg Φ Φ' Φ₀ : Phi} {m m' i₀ μ : LMap} {w w' w₀ : World} {H : Heap} {ρ : Ren}

def Ren.inv : Ren → Site → Option Site
  | [], _ => none
  | (a, c) :: r, s => bif Site.eq c s then some a else Ren.inv r s
def renMap (m : LMap) (ρ : Ren) : LMap := fun s => match ρ.inv s with | some a => m a | none => .none

theorem fstIn_get : ∀ {ρ : Ren} {s : Site}, fstIn s ρ = false → ρ.get s = none
  | [], _, _ => rfl
  | (a, c) :: r, s, h => by
    simp only [fstIn, Bool.or_eq_false_iff] at h
    simp only [Ren.get, h.1, cond_false]
    exact fstIn_get h.2
theorem sndIn_inv : ∀ {ρ : Ren} {s : Site}, sndIn s ρ = false → ρ.inv s = none
  | [], _, _ => rfl
  | (a, c) :: r, s, h => by
    simp only [sndIn, Bool.or_eq_false_iff] at h
    simp only [Ren.inv, h.1, cond_false]
    exact sndIn_inv h.2
theorem get_inv : ∀ {ρ : Ren}, renOk ρ = true → ∀ {s s' : Site}, ρ.get s = some s' → ρ.inv s' = some s
  | [], _, _, _, h => by cases h
  | (a, c) :: r, ho, s, s', h => by
    simp only [renOk, Bool.and_eq_true, Bool.not_eq_true'] at ho
    obtain ⟨⟨h1, h2⟩, h3⟩ := ho
    by_cases e : a = s
    · subst e
      simp only [Ren.get, Site.eq_refl, cond_true, Option.some.injEq] at h
      subst h
      simp [Ren.inv, Site.eq_refl]
    · simp only [Ren.get, Site.eq_ne e, cond_false] at h
      have ih := get_inv h3 h
      have hne : c ≠ s' := by
        rintro rfl
        rw [sndIn_inv h2] at ih
        cases ih
      simp only [Ren.inv, Site.eq_ne hne, cond_false]
      exact ih
theorem inv_get : ∀ {ρ : Ren}, renOk ρ = true → ∀ {s s' : Site}, ρ.inv s' = some s → ρ.get s = some s'
  | [], _, _, _, h => by cases h
  | (a, c) :: r, ho, s, s', h => by
    simp only [renOk, Bool.and_eq_true, Bool.not_eq_true'] at ho
    obtain ⟨⟨h1, h2⟩, h3⟩ := ho
    by_cases e : c = s'
    · subst e
      simp only [Ren.inv, Site.eq_refl, cond_true, Option.some.injEq] at h
      subst h
      simp [Ren.get, Site.eq_refl]
    · simp only [Ren.inv, Site.eq_ne e, cond_false] at h
      have ih := inv_get h3 h
      have hne : a ≠ s := by
        rintro rfl
        rw [fstIn_get h1] at ih
        cases ih
      simp only [Ren.get, Site.eq_ne hne, cond_false]
      exact ih

/-! ### Values -/
theorem Rs_top {Φ : Phi} {m : LMap} : ∀ {vs : List AV} {xs : List Value}, vs.length = xs.length → Rs Φ m (vs.map fun _ => .top) xs := fun {vs xs} h =>
  Rs.mk' (by simpa using h) fun j v x hv hx => by
    rw [List.getElem?_map] at hv
    cases hvs : vs[j]? with
    | none => rw [hvs] at hv; cases hv
    | some u => rw [hvs] at hv; cases hv; exact .top
mutual
theorem renV_ok (hρ : ∀ s s', ρ.get s = some s' → m' s' = m s) : ∀ {n : Nat} {v : AV} {x : Value}, R Φ m v x → R Φ m' (renV ρ n v) x
  | 0, _, _, _ => .top
  | n + 1, v, x, h => by
    unfold renV
    cases hh : AV.hasRef v with
    | false => exact h.noref hh (fun _ _ _ h => h)
    | true =>
      simp only [cond_true]
      split
      · obtain ⟨xs, rfl, hrs⟩ := h.agg_inv
        exact .aggs (renVs_ok hρ hrs)
      · obtain ⟨xs, rfl, hrs⟩ := h.tuple_inv
        exact .tuples (renVs_ok hρ hrs)
      · cases h with
        | iface h => exact .iface (renV_ok hρ h)
      · obtain ⟨xs, ys, rfl, h1, h2⟩ := h.func_inv
        exact .funcs (renVs_ok hρ h1) (renVs_ok hρ h2)
      · split
        · rename_i s' hs
          cases h with
          | ref hm => exact .ref (by rw [hρ _ _ hs]; exact hm)
        · exact .top
      · split
        · rename_i s' hs
          cases h with
          | sref0 => exact .sref0
          | sref hm h1 h2 h3 => exact .sref (by rw [hρ _ _ hs]; exact hm) h1 h2 h3
        · exact .top
      · cases h with
        | nils => exact .nils
      · exact .top
theorem renVs_ok (hρ : ∀ s s', ρ.get s = some s' → m' s' = m s) : ∀ {n : Nat} {vs : List AV} {xs : List Value}, Rs Φ m vs xs → Rs Φ m' (renVs ρ n vs) xs
  | 0, _, _, h => by unfold renVs; exact Rs_top h.1
  | n + 1, [], xs, h => by rw [h.inv_nil]; unfold renVs; exact .nil
  | n + 1, v :: r, xs, h => by
    obtain ⟨x, ys, rfl, hx, hys⟩ := h.inv_cons
    unfold renVs
    exact .cons (renV_ok hρ hx) (renVs_ok hρ hys)
end
/-- A variable's cells. -/
theorem ren_cells (hρ : ∀ s s', ρ.get s = some s' → m' s' = m s) {n : Nat} {v : AV} {xs : List Value} (h : Rs Φ m v.cells xs) : Rs Φ m' (renV ρ (n + 1) v).cells xs := by
  by_cases hag : ∃ cs, v = .agg cs
  · obtain ⟨cs, rfl⟩ := hag
    unfold renV
    cases hh : AV.hasRef (.agg cs) with
    | false =>
      simp only [cond_false]
      exact Rs.mk' h.1 fun j v x hv hx => (h.at hv hx).noref (hasRef_cells hh hv) (fun _ _ _ h => h)
    | true => exact renVs_ok hρ h
  · have hcl : v.cells = [v] := by cases v <;> first | rfl | exact absurd ⟨_, rfl⟩ hag
    have hcl' : (renV ρ (n + 1) v).cells = [renV ρ (n + 1) v] := by
      unfold renV
      cases hh : AV.hasRef v with
      | false => exact hcl
      | true =>
        simp only [cond_true]
        split <;> first
          | rfl
          | exact absurd ⟨_, rfl⟩ hag
          | (split <;> rfl)
    rw [hcl] at h
    rw [hcl']
    obtain ⟨x, ys, rfl, hx, hys⟩ := h.inv_cons
    rw [hys.inv_nil]
    exact .cons (renV_ok hρ hx) .nil
theorem ren_blk (hρ : ∀ s s', ρ.get s = some s' → m' s' = m s) {s s' : Site} {B : Blk} (hm : m' s' = m s) (h : BlkOk Φ m w s B) : BlkOk Φ m' w s' (renB ρ B) := by
  cases B with
  | box v wr =>
    obtain ⟨b, e, h⟩ := h
    obtain ⟨xs, h1, h2⟩ := h.lies.list
    have h3 := ren_cells (n := 39) hρ h1
    have hlen : (renV ρ deep v).cells.length = v.cells.length := by rw [show deep = 39 + 1 from rfl, h3.1, h1.1]
    refine ⟨b, e, ⟨by rw [hm, h.loc, hlen], by rw [hlen]; exact h.shape, fun j c hc => ?_, by rw [hlen]; exact h.nf, h.phi⟩⟩
    obtain ⟨x, hx, hr⟩ := h3.2 j c hc
    exact ⟨x, by have := h2 j x hx; rw [Nat.zero_add] at this; exact this, hr⟩
  | row e xs wr rm =>
    rcases h with ⟨h1, h2, h3⟩ | ⟨b, size, h⟩
    · exact .inl ⟨hm.trans h1, h2, h3⟩
    · exact .inr ⟨b, size, ⟨hm.trans h.loc, h.pos, h.len, h.shape, h.each, h.cell, h.nf, h.phi, h.room, h.one⟩⟩
  | gone => trivial

/-! ### Blocks -/
theorem headHeap_get {ρ₀ : Ren} : ∀ {ρ : Ren}, renOk ρ = true → ∀ (s' : Site), hget (headHeap H ρ₀ ρ) s' = ((ρ.inv s').bind (hget H)).map (renB ρ₀)
  | [], _, _ => rfl
  | (a, c) :: r, ho, s' => by
    simp only [renOk, Bool.and_eq_true, Bool.not_eq_true'] at ho
    obtain ⟨⟨h1, h2⟩, h3⟩ := ho
    have ih := headHeap_get (ρ₀ := ρ₀) h3 s'
    unfold headHeap
    by_cases e : c = s'
    · subst e
      simp only [Ren.inv, Site.eq_refl, cond_true, Option.bind_some]
      split
      · rename_i b hb
        rw [hget_cons_same, hb]; rfl
      · rename_i hb
        rw [ih, sndIn_inv h2, hb]; rfl
    · simp only [Ren.inv, Site.eq_ne e, cond_false]
      split
      · rw [hget_cons_ne _ _ e]; exact ih
      · exact ih
theorem renB_live {B : Blk} : (renB ρ B).live ↔ B.live := by cases B <;> exact Iff.rfl

theorem renMap_get (ho : renOk ρ = true) : ∀ s s', ρ.get s = some s' → renMap m ρ s' = m s := fun s s' h => by
  unfold renMap
  rw [get_inv ho h]
theorem Inv.ren (hI : Inv Φ m w H) (ho : renOk ρ = true) : Inv Φ (renMap m ρ) w (headHeap H ρ ρ) := by
  have hmap : ∀ {s' b e z}, renMap m ρ s' = .at b e z → ∃ s, ρ.inv s' = some s ∧ m s = .at b e z := fun {s' b e z} h => by
    unfold renMap at h
    split at h
    · rename_i a ha; exact ⟨a, ha, h⟩
    · cases h
  refine ⟨hI.phi, fun s' B hB => ?_, fun s' hs => ?_, fun s1 s2 B1 B2 b e z e' z' h1 h2 l1 l2 hm1 hm2 => ?_, fun s' b e z h => ?_⟩
  · rw [headHeap_get ho] at hB
    cases hi : ρ.inv s' with
    | none => rw [hi] at hB; cases hB
    | some a =>
      rw [hi, Option.bind_some] at hB
      cases ha : hget H a with
      | none => rw [ha] at hB; cases hB
      | some b =>
        rw [ha] at hB
        cases hB
        exact ren_blk (renMap_get ho) (by unfold renMap; rw [hi]) (hI.blk a b ha)
  · rw [headHeap_get ho] at hs
    unfold renMap
    split
    · rename_i a ha
      rw [ha, Option.bind_some] at hs
      exact hI.map a (by cases hh : hget H a with | none => rfl | some b => rw [hh] at hs; cases hs)
    · rfl
  · rw [headHeap_get ho] at h1 h2
    obtain ⟨a1, i1, g1⟩ := hmap hm1
    obtain ⟨a2, i2, g2⟩ := hmap hm2
    rw [i1, Option.bind_some] at h1
    rw [i2, Option.bind_some] at h2
    cases k1 : hget H a1 with
    | none => rw [k1] at h1; cases h1
    | some b1 =>
      cases k2 : hget H a2 with
      | none => rw [k2] at h2; cases h2
      | some b2 =>
        rw [k1] at h1
        rw [k2] at h2
        cases h1
        cases h2
        have := hI.inj _ _ _ _ _ _ _ _ _ k1 k2 (renB_live.1 l1) (renB_live.1 l2) g1 g2
        subst this
        have e1 := inv_get ho i1
        rw [inv_get ho i2] at e1
        cases e1
        rfl
  · obtain ⟨a, _, g⟩ := hmap h
    exact hI.lt _ _ _ _ g
theorem Glob.ren (hG : Glob Φg Φ₀ i₀ w₀ Φ m w) (hinc : ∀ i b e z, i₀ (.inc i) = .at b e z → ρ.inv (.inc i) = some (.inc i)) : Glob Φg Φ₀ i₀ w₀ Φ (renMap m ρ) w := by
  refine ⟨hG.phi, hG.phiNew, fun i b e z h => ?_, fun s b e z h => ?_, hG.same, hG.size, hG.os, hG.out, hG.tape, hG.base⟩
  · unfold renMap
    rw [hinc i b e z h]
    exact hG.inc i b e z h
  · unfold renMap at h
    split at h
    · exact hG.own _ _ _ _ h
    · cases h

theorem Inv.nil {s : Site} (hI : Inv Φ m w H) (hs : m s = .none) {rm wr : Bool} {e : Nat} : Inv Φ m w ((s, .row e [] wr rm) :: H) := by
  refine ⟨hI.phi, fun x B hB => ?_, fun x hx => ?_, fun s1 s2 B1 B2 b e z e' z' h1 h2 l1 l2 hm1 hm2 => ?_, hI.lt⟩
  · by_cases e : s = x
    · subst e
      rw [hget_cons_same] at hB
      cases hB
      exact .inl ⟨hs, rfl, rfl⟩
    · rw [hget_cons_ne _ _ e] at hB
      exact hI.blk x B hB
  · by_cases e : s = x
    · subst e; exact hs
    · rw [hget_cons_ne _ _ e] at hx; exact hI.map x hx
  · have e1 : s ≠ s1 := by rintro rfl; rw [hs] at hm1; cases hm1
    have e2 : s ≠ s2 := by rintro rfl; rw [hs] at hm2; cases hm2
    rw [hget_cons_ne _ _ e1] at h1
    rw [hget_cons_ne _ _ e2] at h2
    exact hI.inj _ _ _ _ _ _ _ _ _ h1 h2 l1 l2 hm1 hm2

/-! ### The head -/
theorem headT_ok {s : St} (hI : Inv Φ m w s.H) {tmps : Array Value} (hT : RT Φ m s.T tmps) : ∀ {live : List (Nat × Nat)} {L L' : List Site} {T : Temps}, headT s live L = some (T, L') →
    (∀ x ∈ L, x ∈ L') ∧ ∀ {L'' : List Site}, (∀ x ∈ L', x ∈ L'') → RT (frzPhi Φ m w s.H L'') m T tmps
  | [], L, L', T, h => by
    simp only [headT, Option.some.injEq, Prod.mk.injEq] at h
    obtain ⟨rfl, rfl⟩ := h
    exact ⟨fun _ h => h, fun _ t v h => by cases h⟩
  | (t, fz) :: r, L, L', T, h => by
    unfold headT at h
    split at h
    · rename_i v hv
      obtain ⟨x, hx, hr⟩ := hT t v hv
      cases hfz : Nat.beq fz 1 with
      | true =>
        rw [hfz] at h
        simp only [cond_true] at h
        split at h
        · rename_i v' L1 hc
          split at h
          · rename_i T1 L2 hh
            cases h
            obtain ⟨c1, c2⟩ := closeV_ok hI hc hr
            obtain ⟨h1, h2⟩ := headT_ok hI hT hh
            refine ⟨fun y hy => h1 y (c1 y hy), fun hL t' v'' hv' => ?_⟩
            simp only [tget] at hv'
            cases hb : Nat.beq t t' with
            | true =>
              rw [hb] at hv'
              cases hv'
              rw [Nat.beq_eq] at hb
              subst hb
              exact ⟨x, hx, c2 (fun h => by cases h) fun y hy => hL y (h1 y hy)⟩
            | false => rw [hb] at hv'; exact h2 hL t' v'' hv'
          · cases h
        · cases h
      | false =>
        rw [hfz] at h
        simp only [cond_false] at h
        split at h
        · rename_i T1 L2 hh
          cases h
          obtain ⟨h1, h2⟩ := headT_ok hI hT hh
          refine ⟨h1, fun hL t' v'' hv' => ?_⟩
          simp only [tget] at hv'
          cases hb : Nat.beq t t' with
          | true =>
            rw [hb] at hv'
            cases hv'
            rw [Nat.beq_eq] at hb
            subst hb
            exact ⟨x, hx, hr.mono (frzPhi_ext hI)⟩
          | false => rw [hb] at hv'; exact h2 hL t' v'' hv'
        · cases h
    · cases h
theorem headRenT_ok (hρ : ∀ s s', ρ.get s = some s' → m' s' = m s) {tmps : Array Value} : ∀ {T : Temps}, RT Φ m T tmps → RT Φ m' (headRenT ρ T) tmps := by
  have key : ∀ {T : Temps} {t : Nat} {v' : AV}, tget (headRenT ρ T) t = some v' → ∃ t' v, tget T t = some v ∧ v' = (match v with | .nils => .sref (.head t' 0) 0 0 | v => renV ρ deep v) := by
    intro T
    induction T with
    | nil => intro t v' h; cases h
    | cons p r ih =>
      obtain ⟨a, v⟩ := p
      intro t v' h
      simp only [headRenT, tget] at h ⊢
      cases hb : Nat.beq a t with
      | true => rw [hb] at h; cases h; exact ⟨a, v, rfl, rfl⟩
      | false => rw [hb] at h; exact ih h
  intro T hT t v' h
  obtain ⟨t', v, h1, rfl⟩ := key h
  obtain ⟨x, hx, hr⟩ := hT t v h1
  refine ⟨x, hx, ?_⟩
  split
  · cases hr with
    | nils => exact .sref0
  · exact renV_ok hρ hr

theorem nilHeap_ok (live : List (Nat × Nat)) (T : Temps) (hI : Inv Φ m w H) : (∀ s B, (s, B) ∈ nilHeap live T → m s = .none) → Inv Φ m w (nilHeap live T ++ H) := by
  induction T with
  | nil => intro _; exact hI
  | cons p r ih =>
    obtain ⟨t, v⟩ := p
    intro h
    unfold nilHeap at h ⊢
    split at h
    · exact Inv.nil (ih fun s B hs => h s B (List.mem_cons_of_mem _ hs)) (h _ _ (List.mem_cons_self ..))
    · exact ih h
theorem nilOk_ok : ∀ {N : Heap}, nilOk ρ N = true → ∀ s B, (s, B) ∈ N → ρ.inv s = none
  | [], _, _, _, h => by cases h
  | (a, b) :: r, ho, s, B, h => by
    simp only [nilOk, Bool.and_eq_true, Bool.not_eq_true'] at ho
    rcases List.mem_cons.1 h with e | h
    · cases e; exact sndIn_inv ho.1
    · exact nilOk_ok ho.2 s B h

theorem headNames_get {t : Nat} : ∀ {l : List Site} {i : Nat} {j : Nat}, Site.inc j ∈ l → (headNames t l i).get (.inc j) = some (.inc j)
  | [], _, _, h => by cases h
  | p :: r, i, j, h => by
    unfold headNames
    by_cases e : p = .inc j
    · subst e; simp [Ren.get, Site.eq_refl]
    · have hm : Site.inc j ∈ r := by rcases List.mem_cons.1 h with e' | h; exact absurd e'.symm e; exact h
      cases p with
      | inc k => simp only [Ren.get, Site.eq_ne e, cond_false]; exact headNames_get hm
      | _ => simp only [Ren.get, Site.eq_ne e, cond_false]; exact headNames_get hm
theorem get_append : ∀ {ρ ρ' : Ren} {s s' : Site}, ρ.get s = some s' → (ρ ++ ρ' : Ren).get s = some s'
  | (a, c) :: r, ρ', s, s', h => by
    simp only [List.cons_append, Ren.get] at h ⊢
    cases hb : Site.eq a s with
    | true => rw [hb] at h; exact h
    | false => rw [hb] at h; exact get_append h
  | [], _, _, _, h => by cases h
theorem mem_incSites : ∀ {H : Heap} {i : Nat} {B : Blk}, hget H (.inc i) = some B → Site.inc i ∈ incSites H
  | [], _, _, h => by cases h
  | (a, b) :: r, i, B, h => by
    by_cases e : a = .inc i
    · subst e; exact List.mem_cons_self ..
    · rw [hget_cons_ne _ _ e] at h
      have := mem_incSites h
      unfold incSites
      split
      · rename_i heq; cases heq
      · rename_i heq; cases heq; exact List.mem_cons_of_mem _ this
      · rename_i heq; cases heq; exact this

theorem Site.lt_ne {c a : Site} (h : Site.lt c a = true) : c ≠ a := by
  rintro rfl
  cases c <;> simp [Site.lt] at h
theorem hget_insH {a : Site} {b : Blk} : ∀ {H : Heap} {s : Site}, hget (insH a b H) s = hget ((a, b) :: H) s
  | [], s => rfl
  | (c, d) :: r, s => by
    unfold insH
    cases hc : Site.lt c a with
    | false => rfl
    | true =>
      simp only [cond_true]
      have hne := Site.lt_ne hc
      have ih := hget_insH (a := a) (b := b) (H := r) (s := s)
      by_cases e : c = s
      · subst e
        rw [hget_cons_ne _ _ (Ne.symm hne)]
        simp [hget, Site.eq_refl]
      · rw [hget_cons_ne _ _ e, ih]
        by_cases e2 : a = s
        · subst e2; simp [hget, Site.eq_refl]
        · rw [hget_cons_ne _ _ e2, hget_cons_ne _ _ e2, hget_cons_ne _ _ e]
theorem hget_sortH : ∀ {H : Heap} {s : Site}, hget (sortH H) s = hget H s
  | [], s => rfl
  | (a, b) :: r, s => by
    unfold sortH
    rw [hget_insH]
    have ih := hget_sortH (H := r) (s := s)
    by_cases e : a = s
    · subst e; simp [hget, Site.eq_refl]
    · rw [hget_cons_ne _ _ e, hget_cons_ne _ _ e, ih]
theorem Inv.alike {H H' : Heap} (hI : Inv Φ m w H) (h : ∀ s, hget H' s = hget H s) : Inv Φ m w H' :=
  ⟨hI.phi, fun s B hs => hI.blk s B (h s ▸ hs), fun s hs => hI.map s (h s ▸ hs), fun s s' B B' b e z e' z' h1 h2 => hI.inj s s' B B' b e z e' z' (h s ▸ h1) (h s' ▸ h2), hI.lt⟩

theorem boxNil_ok {s : Site} {t off esz : Nat} (hI : Inv Φ m w H) : Inv Φ m w (boxNil s t off esz H) := by
  unfold boxNil
  split
  · rename_i cs wr hg
    split
    · rename_i hc
      split
      · rename_i hn
        refine Inv.nil ?_ (hI.map _ hn)
        have hne : Site.told (1000000 + t) off ≠ s := by rintro rfl; rw [hn] at hg; cases hg
        have key : ∀ {s' C}, hget (hset H s (.box (.agg (cs.set off (.sref (.told (1000000 + t) off) 0 0))) wr)) s' = some C → s' = s ∧ C = .box (.agg (cs.set off (.sref (.told (1000000 + t) off) 0 0))) wr ∨ s' ≠ s ∧ hget H s' = some C := fun {s' C} hC => by
          by_cases h : s = s'
          · subst h; rw [hget_hset_same hg] at hC; cases hC; exact .inl ⟨rfl, rfl⟩
          · rw [hget_hset_ne h] at hC; exact .inr ⟨Ne.symm h, hC⟩
        refine ⟨hI.phi, fun s' B hB => ?_, fun s' hs => ?_, fun s1 s2 B B' b e z e' z' h1 h2 l1 l2 => ?_, hI.lt⟩
        · rcases key hB with ⟨rfl, rfl⟩ | ⟨_, hB⟩
          · obtain ⟨b, e, h⟩ := hI.blk _ _ hg
            obtain ⟨xs, h1, h2⟩ := h.lies.list
            refine ⟨b, e, ⟨?_, ?_, fun j c hc' => ?_, ?_, h.phi⟩⟩
            · have := h.loc; simpa [AV.cells] using this
            · have := h.shape; simpa [AV.cells] using this
            · have hc2 : (cs.set off (.sref (.told (1000000 + t) off) 0 0))[j]? = some c := hc'
              by_cases ej : off = j
              · subst ej
                have hlt : off < cs.length := (List.getElem?_eq_some_iff.1 hc).1
                rw [List.getElem?_set_self hlt] at hc2
                cases hc2
                obtain ⟨x, hx, hr⟩ := h1.2 off _ hc
                refine ⟨x, by have := h2 off x hx; rw [Nat.zero_add] at this; exact this, ?_⟩
                cases hr with
                | nils => exact .sref0
              · rw [List.getElem?_set_ne ej] at hc2
                obtain ⟨x, hx, hr⟩ := h1.2 j c hc2
                exact ⟨x, by have := h2 j x hx; rw [Nat.zero_add] at this; exact this, hr⟩
            · have := h.nf; simpa [AV.cells] using this
          · exact hI.blk _ _ hB
        · by_cases h : s = s'
          · subst h; rw [hget_hset_same hg] at hs; cases hs
          · rw [hget_hset_ne h] at hs; exact hI.map _ hs
        · have old : ∀ {s' C}, hget (hset H s (.box (.agg (cs.set off (.sref (.told (1000000 + t) off) 0 0))) wr)) s' = some C → C.live → ∃ C', hget H s' = some C' ∧ C'.live := fun {s' C} hC hl => by
            rcases key hC with ⟨rfl, rfl⟩ | ⟨_, hC⟩
            · exact ⟨_, hg, hl⟩
            · exact ⟨_, hC, hl⟩
          obtain ⟨C1, g1, k1⟩ := old h1 l1
          obtain ⟨C2, g2, k2⟩ := old h2 l2
          exact hI.inj s1 s2 C1 C2 b e z e' z' g1 g2 k1 k2
      · exact hI
    · exact hI
  · exact hI
theorem boxNilC_ok {s : Site} {t : Nat} : ∀ {n c : Nat} {H : Heap}, Inv Φ m w H → Inv Φ m w (boxNilC s t n c H)
  | 0, _, _, h => h
  | n + 1, c, H, h => by
    unfold boxNilC
    cases Nat.beq c 0 with
    | true => exact h
    | false => exact boxNilC_ok (boxNil_ok h)
theorem boxNils_ok {T : Temps} : ∀ {live : List (Nat × Nat)} {H : Heap}, Inv Φ m w H → Inv Φ m w (boxNils T live H)
  | [], _, h => h
  | (t, c) :: r, H, h => by
    unfold boxNils
    cases Nat.blt c 1000 with
    | true => exact boxNils_ok h
    | false =>
      simp only [cond_false]
      split
      · exact boxNils_ok (boxNilC_ok h)
      · exact boxNils_ok h

theorem head0_ok {live : List (Nat × Nat)} {s s' : St} {tmps : Array Value} (h : head0 live s = some s') (hT : RT Φ m s.T tmps) (hI : Inv Φ m w s.H) (hG : Glob Φg Φ₀ i₀ w₀ Φ m w) :
    ∃ Φ' m', RT Φ' m' s'.T tmps ∧ Inv Φ' m' w s'.H ∧ Glob Φg Φ₀ i₀ w₀ Φ' m' w := by
  unfold head0 at h
  split at h
  · rename_i T L hh
    obtain ⟨_, h1⟩ := headT_ok hI hT hh
    have hT1 := h1 (L'' := L) fun _ h => h
    have hI1 := hI.frz L
    have hG1 := hG.frz L hI
    dsimp only at h
    generalize hρ : headNames 0 (incSites s.H) 0 ++ headRen (fxApp s.H (frzAll L)) T (incSites s.H) = ρ at h
    cases ho : renOk ρ with
    | false => rw [ho] at h; cases h
    | true =>
      cases hn : nilOk ρ (nilHeap live T) with
      | false => rw [ho, hn] at h; cases h
      | true =>
        rw [ho, hn] at h
        simp only [Bool.and_self, cond_true, Option.some.injEq] at h
        subst h
        refine ⟨frzPhi Φ m w s.H L, renMap m ρ, headRenT_ok (renMap_get ho) hT1, (nilHeap_ok live T (hI1.ren ho) fun s B hs => ?_).alike fun _ => hget_sortH, hG1.ren fun i b e z hi => ?_⟩
        · unfold renMap; rw [nilOk_ok hn s B hs]
        · have hm := hG.inc i b e z hi
          cases hg : hget s.H (.inc i) with
          | none => rw [hI.map _ hg] at hm; cases hm
          | some B =>
            refine get_inv ho ?_
            rw [← hρ]
            exact get_append (headNames_get (mem_incSites hg))
  · cases h

/-- **What lives at a loop's head.** -/
theorem head_ok {live : List (Nat × Nat)} {s s' : St} {tmps : Array Value} (h : head live s = some s') (hT : RT Φ m s.T tmps) (hI : Inv Φ m w s.H) (hG : Glob Φg Φ₀ i₀ w₀ Φ m w) :
    ∃ Φ' m', RT Φ' m' s'.T tmps ∧ Inv Φ' m' w s'.H ∧ Glob Φg Φ₀ i₀ w₀ Φ' m' w := by
  obtain ⟨T, H⟩ := s
  exact head0_ok (s := ⟨T, boxNils T live H⟩) h hT (boxNils_ok hI) hG
end
end Go.Ab
