/- Calls. -/
import Derived.Test.YtmkkhaonakdgpaaDoorAbCtx
namespace Go.Ab
open Go
section
variable {Φg Φ Φ' Φ₀ : Phi} {m m' i₀ μ : LMap} {w w' w₀ : World} {H : Heap} {ρ : Ren}

theorem hset_dom {s s' : Site} {b : Blk} (h : hget H s' ≠ none) : hget (hset H s b) s' ≠ none := by
  by_cases e : s = s'
  · subst e
    cases hg : hget H s with
    | none => exact absurd hg h
    | some c => rw [hget_hset_same hg]; exact fun h => by cases h
  · rw [hget_hset_ne e]; exact h
theorem fxBack_at : ∀ {L : List Site} {bs : List Blk} {H : Heap}, L.Nodup → (∀ s ∈ L, hget H s ≠ none) →
    (∀ (i : Nat) s b, L[i]? = some s → bs[i]? = some b → hget (fxApp H (fxBack L bs)) s = some b) ∧ ∀ s, s ∉ L → hget (fxApp H (fxBack L bs)) s = hget H s
  | [], bs, H, _, _ => ⟨fun i s b h => by simp at h, fun s _ => by cases bs <;> rfl⟩
  | a :: r, [], H, _, _ => ⟨fun i s b _ h => by simp at h, fun s _ => rfl⟩
  | a :: r, b :: q, H, hn, hd => by
    obtain ⟨hna, hn⟩ := List.nodup_cons.1 hn
    obtain ⟨h1, h2⟩ := fxBack_at (L := r) (bs := q) (H := hset H a b) hn fun s hs => hset_dom (hd s (List.mem_cons_of_mem _ hs))
    constructor
    · intro i s b' hs hb
      cases i with
      | zero =>
        simp at hs hb
        subst hs hb
        show hget (fxApp (hset H a b) (fxBack r q)) a = some b
        rw [h2 a hna]
        cases hg : hget H a with
        | none => exact absurd hg (hd a (List.mem_cons_self ..))
        | some c => exact hget_hset_same hg
      | succ i => exact h1 i s b' (by simpa using hs) (by simpa using hb)
    · intro s hs
      show hget (fxApp (hset H a b) (fxBack r q)) s = hget H s
      rw [h2 s (fun h => hs (List.mem_cons_of_mem _ h)), hget_hset_ne (fun e : a = s => hs (by rw [← e]; exact List.mem_cons_self ..))]
theorem fxTold_at {d : Nat} : ∀ {os : List Blk} {i0 : Nat} {H : Heap},
    (∀ (i : Nat) b, os[i]? = some b → hget (fxApp H (fxTold d os i0)) (.told d (i0 + i)) = some b) ∧ ∀ s, (∀ i, i < os.length → s ≠ .told d (i0 + i)) → hget (fxApp H (fxTold d os i0)) s = hget H s
  | [], i0, H => ⟨fun i b h => by simp at h, fun _ _ => rfl⟩
  | b :: r, i0, H => by
    obtain ⟨h1, h2⟩ := fxTold_at (d := d) (os := r) (i0 := i0 + 1) (H := (.told d i0, b) :: H)
    constructor
    · intro i b' hb
      cases i with
      | zero =>
        simp at hb
        subst hb
        show hget (fxApp ((.told d i0, b) :: H) (fxTold d r (i0 + 1))) _ = _
        rw [h2 _ fun i _ h => by simp at h; omega, Nat.add_zero, hget_cons_same]
      | succ i =>
        have := h1 i b' (by simpa using hb)
        rw [show i0 + (i + 1) = i0 + 1 + i by omega]
        exact this
    · intro s hs
      show hget (fxApp ((.told d i0, b) :: H) (fxTold d r (i0 + 1))) s = hget H s
      rw [h2 s fun i hi h => hs (i + 1) (by simpa using hi) (by rw [h]; congr 1; omega), hget_cons_ne]
      exact fun h => hs 0 (by simp) (by rw [← h]; rfl)
theorem fxApp_append : ∀ (l r : List Fx) (H : Heap), fxApp H (l ++ r) = fxApp (fxApp H l) r
  | [], _, _ => rfl
  | f :: l, r, H => fxApp_append l r (f.app H)
theorem fxHit_append : ∀ (l r : List Fx), fxHit (l ++ r) = fxHit l ++ fxHit r
  | [], _ => rfl
  | f :: l, r => by simp only [List.cons_append, fxHit, fxHit_append l r, List.append_assoc]
theorem fxHit_back : ∀ {L : List Site} {bs : List Blk}, L.length = bs.length → fxHit (fxBack L bs) = L
  | [], [], _ => rfl
  | a :: r, b :: q, h => by simp only [fxBack, fxHit, Fx.hit, fxHit_back (L := r) (bs := q) (by simpa using h)]; rfl
  | [], b :: q, h => by simp at h
  | a :: r, [], h => by simp at h
theorem fxHit_told {d : Nat} : ∀ {os : List Blk} {i : Nat}, fxHit (fxTold d os i) = []
  | [], _ => rfl
  | b :: r, i => by simp only [fxTold, fxHit, Fx.hit, fxHit_told (os := r)]; rfl
theorem fxHit_frz : ∀ {L : List Site}, fxHit (frzAll L) = []
  | [] => rfl
  | b :: r => by simp only [frzAll, fxHit, Fx.hit, fxHit_frz (L := r)]; rfl

theorem renInc_get : ∀ {L : List Site} {i0 : Nat} {i : Nat} {s : Site}, renOk (renInc L i0) = true → L[i]? = some s → (renInc L i0).get s = some (.inc (i0 + i))
  | [], i0, i, s, _, h => by simp at h
  | p :: r, i0, 0, s, _, h => by simp at h; subst h; simp [renInc, Ren.get, Site.eq_refl]
  | p :: r, i0, i + 1, s, ho, h => by
    simp only [renInc, renOk, Bool.and_eq_true, Bool.not_eq_true'] at ho
    have ih := renInc_get (i0 := i0 + 1) ho.2 (by simpa using h)
    have hne : p ≠ s := by
      rintro rfl
      rw [fstIn_get ho.1.1] at ih; cases ih
    simp only [renInc, Ren.get, Site.eq_ne hne, cond_false, ih]
    congr 2; omega
theorem renInc_inv (L : List Site) : ∀ (i0 : Nat) (s : Site), (renInc L i0).inv s = match s with | .inc j => if i0 ≤ j then L[j - i0]? else none | _ => none := by
  induction L with
  | nil => intro i s; cases s <;> simp [renInc, Ren.inv]
  | cons p r ih =>
    intro i s
    simp only [renInc, Ren.inv]
    by_cases e : Site.inc i = s
    · subst e; rw [Site.eq_refl]; simp
    · rw [Site.eq_ne e, cond_false, ih (i + 1) s]
      cases s with
      | inc j =>
        have hne : i ≠ j := fun h => e (by rw [h])
        dsimp only
        by_cases h : i ≤ j
        · rw [if_pos (by omega), if_pos h, show j - i = (j - (i + 1)) + 1 by omega, List.getElem?_cons_succ]
        · rw [if_neg (by omega), if_neg h]
      | _ => rfl
theorem fstIn_mem : ∀ {L : List Site} {i0 : Nat} {s : Site}, fstIn s (renInc L i0) = false → s ∉ L
  | [], _, _, _, h => by cases h
  | p :: r, i0, s, hf, h => by
    simp only [renInc, fstIn, Bool.or_eq_false_iff] at hf
    rcases List.mem_cons.1 h with rfl | h
    · rw [Site.eq_refl] at hf; cases hf.1
    · exact fstIn_mem hf.2 h
theorem renInc_nodup : ∀ {L : List Site} {i0 : Nat}, renOk (renInc L i0) = true → L.Nodup
  | [], _, _ => List.nodup_nil
  | p :: r, i0, h => by
    simp only [renInc, renOk, Bool.and_eq_true, Bool.not_eq_true'] at h
    exact List.nodup_cons.2 ⟨fstIn_mem h.1.1, renInc_nodup h.2⟩

theorem renBack_get : ∀ {L : List Site} {i0 : Nat} {c s : Site}, (renBack L i0).get c = some s ↔ ∃ i, c = .inc (i0 + i) ∧ L[i]? = some s
  | [], i0, c, s => by simp [renBack, Ren.get]
  | p :: r, i0, c, s => by
    simp only [renBack, Ren.get]
    by_cases e : Site.inc i0 = c
    · subst e
      rw [Site.eq_refl, cond_true]
      constructor
      · intro h; exact ⟨0, rfl, by simpa using h⟩
      · rintro ⟨i, h1, h2⟩
        simp at h1
        have : i = 0 := by omega
        subst this
        simpa using h2
    · rw [Site.eq_ne e, cond_false, renBack_get]
      constructor
      · rintro ⟨i, h1, h2⟩
        exact ⟨i + 1, by rw [h1]; congr 1; omega, by simpa using h2⟩
      · rintro ⟨i, h1, h2⟩
        cases i with
        | zero => exact absurd h1.symm e
        | succ i => exact ⟨i, by rw [h1]; congr 1; omega, by simpa using h2⟩
theorem renTold_get {d : Nat} : ∀ {os : List Blk} {i0 : Nat} {c s : Site}, (renTold d os i0).get c = some s ↔ ∃ i, c = .out (i0 + i) ∧ i < os.length ∧ s = .told d (i0 + i)
  | [], i0, c, s => by simp [renTold, Ren.get]
  | p :: r, i0, c, s => by
    simp only [renTold, Ren.get]
    by_cases e : Site.out i0 = c
    · subst e
      rw [Site.eq_refl, cond_true]
      constructor
      · intro h; cases h; exact ⟨0, rfl, by simp, rfl⟩
      · rintro ⟨i, h1, _, h2⟩
        simp at h1
        have : i = 0 := by omega
        subst this
        rw [h2]; rfl
    · rw [Site.eq_ne e, cond_false, renTold_get]
      constructor
      · rintro ⟨i, h1, h2, h3⟩
        exact ⟨i + 1, by rw [h1]; congr 1; omega, by simpa using h2, by rw [h3]; congr 1; omega⟩
      · rintro ⟨i, h1, h2, h3⟩
        cases i with
        | zero => exact absurd h1.symm e
        | succ i => exact ⟨i, by rw [h1]; congr 1; omega, by simpa using h2, by rw [h3]; congr 1; omega⟩
theorem get_append_iff : ∀ {ρ ρ' : Ren} {s s' : Site}, (ρ ++ ρ' : Ren).get s = some s' ↔ ρ.get s = some s' ∨ (ρ.get s = none ∧ ρ'.get s = some s')
  | [], ρ', s, s' => by simp [Ren.get]
  | (a, c) :: r, ρ', s, s' => by
    simp only [List.cons_append, Ren.get]
    cases hb : Site.eq a s with
    | true => simp
    | false => simp only [cond_false]; exact get_append_iff

theorem noTold_inv {α : Type} {X : Ctx} {fid n : Nat} {Q : α → Prop} {k : DT α} {d : Nat} : ∀ {os : List Blk} {i0 : Nat}, SatN X fid n (noTold H d os i0 k) Q → (∀ i, i < os.length → hget H (.told d (i0 + i)) = none) ∧ SatN X fid n k Q
  | [], _, h => ⟨fun i hi => absurd hi (Nat.not_lt_zero _), h⟩
  | b :: r, i0, h => by
    unfold noTold at h
    obtain ⟨h1, h2⟩ := h.noSite_inv
    obtain ⟨h3, h4⟩ := noTold_inv h2
    refine ⟨fun i hi => ?_, h4⟩
    cases i with
    | zero => exact h1
    | succ i => have := h3 i (by simpa using hi); rw [show i0 + (i + 1) = i0 + 1 + i by omega]; exact this

theorem renBs_at : ∀ {bs : List Blk} {i : Nat}, (renBs ρ bs)[i]? = (bs[i]?).map (renB ρ)
  | [], i => by simp [renBs]
  | b :: r, 0 => by simp [renBs]
  | b :: r, i + 1 => by simp only [renBs, List.getElem?_cons_succ]; exact renBs_at
theorem renBs_len : ∀ {bs : List Blk}, (renBs ρ bs).length = bs.length
  | [] => rfl
  | b :: r => by simp [renBs, renBs_len (bs := r)]
theorem isLive_ok' {H : Heap} {s : Site} (h : isLive H s = true) : ∃ B, hget H s = some B ∧ B.live := by
  unfold isLive at h
  split at h
  · cases h
  · rename_i B hne hg
    exact ⟨B, hg, by cases B <;> first | trivial | exact absurd hg (by simpa using hne)⟩
  · cases h
theorem hitsLive_ok' {H : Heap} : ∀ {l : List Site}, hitsLive H l = true → ∀ s ∈ l, ∃ B, hget H s = some B ∧ B.live
  | [], _, s, hs => by cases hs
  | a :: r, h, s, hs => by
    simp only [hitsLive, Bool.and_eq_true] at h
    rcases List.mem_cons.1 hs with rfl | hs
    · exact isLive_ok' h.1
    · exact hitsLive_ok' h.2 s hs

/-- **Behind a call**: what was handed to it comes back, what it hands out is new. -/
theorem back_ok {L : List Site} {bk ou : List Blk} {d : Nat} {m'' mc : LMap} (hI : Inv Φ m w H) (hG : Glob Φg Φ₀ i₀ w₀ Φ m w) (hL : ∀ s ∈ L, ∃ B, hget H s = some B ∧ B.live) (hn : L.Nodup)
    (hmc : ∀ i, mc (.inc i) = match L[i]? with | some s => m s | none => .none) (hI' : Inv Φ' m'' w' (incH 0 bk ++ outH 0 ou)) (hG' : Glob Φg Φ mc w Φ' m'' w') (hlen : bk.length = L.length)
    (ho : renOk (renBack L 0 ++ renTold d ou 0) = true) (hno : ∀ i, i < ou.length → hget H (.told d i) = none) (hbk : ∀ i, i < L.length → hget (incH 0 bk ++ outH 0 ou) (.inc i) = bk[i]?) (hou : ∀ i, i < ou.length → hget (incH 0 bk ++ outH 0 ou) (.out i) = ou[i]?) :
    ∃ m', (∀ c s, (renBack L 0 ++ renTold d ou 0 : Ren).get c = some s → m' s = m'' c) ∧ Ext Φ m Φ' m' ∧
      Inv Φ' m' w' (fxApp H (fxBack L (renBs (renBack L 0 ++ renTold d ou 0) bk) ++ fxTold d (renBs (renBack L 0 ++ renTold d ou 0) ou) 0)) ∧ Glob Φg Φ₀ i₀ w₀ Φ' m' w' ∧
      (∀ b, b < w.heap.size → (∀ s ∈ L, ∀ e z, m s ≠ .at b e z) → w'.heap[b]? = w.heap[b]?) := by
  generalize hρ : (renBack L 0 ++ renTold d ou 0 : Ren) = ρ at ho
  let m' : LMap := fun s => match ρ.inv s with | some c => m'' c | none => m s
  have hinv : ∀ {s c}, ρ.inv s = some c → (∃ i, c = .inc i ∧ L[i]? = some s) ∨ ∃ i, c = .out i ∧ i < ou.length ∧ s = .told d i := fun {s c} h => by
    have := inv_get ho h
    rw [← hρ, get_append_iff, renBack_get, renTold_get] at this
    rcases this with ⟨i, h1, h2⟩ | ⟨_, i, h1, h2, h3⟩
    · exact .inl ⟨i, by simpa using h1, h2⟩
    · exact .inr ⟨i, by simpa using h1, h2, by simpa using h3⟩
  have hinL : ∀ {i s}, L[i]? = some s → ρ.inv s = some (.inc i) := fun {i s} h => get_inv ho (by
    rw [← hρ, get_append_iff]; exact .inl (renBack_get.2 ⟨i, by simp, h⟩))
  have hget' : ∀ c s, ρ.get c = some s → m' s = m'' c := fun c s h => by
    show (match ρ.inv s with | some c => m'' c | none => m s) = m'' c
    rw [get_inv ho h]
  have hmnone : ∀ {s}, ρ.inv s = none → m' s = m s := fun {s} h => by
    show (match ρ.inv s with | some c => m'' c | none => m s) = m s
    rw [h]
  have hmsome : ∀ {s c}, ρ.inv s = some c → m' s = m'' c := fun {s c} h => by
    show (match ρ.inv s with | some c => m'' c | none => m s) = m'' c
    rw [h]
  have hmcL : ∀ {i s}, L[i]? = some s → mc (.inc i) = m s := fun {i s} h => by rw [hmc, h]
  have hmcI : ∀ {i b e z}, mc (.inc i) = .at b e z → ∃ s, L[i]? = some s ∧ m s = .at b e z := fun {i b e z} h => by
    rw [hmc] at h
    split at h
    · rename_i s hs; exact ⟨s, hs, h⟩
    · cases h
  have hext : Ext Φ m Φ' m' := ⟨hG'.phi, fun s b e z h => by
    cases hi : ρ.inv s with
    | none => rw [hmnone hi]; exact h
    | some c =>
      rw [hmsome hi]
      rcases hinv hi with ⟨i, rfl, hs⟩ | ⟨i, rfl, hi', rfl⟩
      · exact hG'.inc i b e z (by rw [hmcL hs]; exact h)
      · rw [hI.map _ (hno i hi')] at h; cases h⟩
  have hstay : ∀ b, b < w.heap.size → (∀ s ∈ L, ∀ e z, m s ≠ .at b e z) → w'.heap[b]? = w.heap[b]? := fun b hb h => hG'.same b hb fun i e z hc => by
    obtain ⟨s, hs, hm⟩ := hmcI hc
    exact h s (List.mem_of_getElem? hs) e z hm
  have hnf : ∀ {b}, b < w.heap.size → (∀ s ∈ L, ∀ e z, m s ≠ .at b e z) → Same Φ Φ' w w' b := fun {b} hb h => by
    have hh := hstay b hb h
    refine ⟨fun o => by simp only [World.cell?, hh], fun o => by simp only [World.frozen?, hh], by simp only [World.shape?, hh], fun o => ?_⟩
    cases h1 : Φ b o with
    | some x => exact hG'.phi _ _ _ h1
    | none =>
      cases h2 : Φ' b o with
      | none => rfl
      | some x =>
        rcases hG'.phiNew b o (by rw [h2]; exact fun h => by cases h) h1 with ⟨i, e, z, hc⟩ | h3
        · obtain ⟨s, hs, hm⟩ := hmcI hc
          exact absurd hm (h s (List.mem_of_getElem? hs) e z)
        · omega
  -- the heap
  obtain ⟨a1, a2⟩ := fxBack_at (L := L) (bs := renBs ρ bk) (H := H) hn fun s hs => by obtain ⟨B, hB, _⟩ := hL s hs; rw [hB]; exact fun h => by cases h
  obtain ⟨b1, b2⟩ := fxTold_at (d := d) (os := renBs ρ ou) (i0 := 0) (H := fxApp H (fxBack L (renBs ρ bk)))
  have hgetL : ∀ {i s}, L[i]? = some s → hget (fxApp H (fxBack L (renBs ρ bk) ++ fxTold d (renBs ρ ou) 0)) s = (bk[i]?).map (renB ρ) := fun {i s} hs => by
    have hi : i < bk.length := by rw [hlen]; exact (List.getElem?_eq_some_iff.1 hs).1
    rw [fxApp_append, b2 s fun j hj h => ?_, a1 i s _ hs (by rw [renBs_at, List.getElem?_eq_getElem hi]; rfl), List.getElem?_eq_getElem hi]
    · rfl
    · obtain ⟨B, hB, _⟩ := hL s (List.mem_of_getElem? hs)
      rw [h, Nat.zero_add, hno j (by rwa [renBs_len] at hj)] at hB
      cases hB
  have hgetO : ∀ {i}, i < ou.length → hget (fxApp H (fxBack L (renBs ρ bk) ++ fxTold d (renBs ρ ou) 0)) (.told d i) = (ou[i]?).map (renB ρ) := fun {i} hi => by
    have := b1 i (renB ρ ou[i]) (by rw [renBs_at, List.getElem?_eq_getElem hi]; rfl)
    rw [Nat.zero_add] at this
    rw [fxApp_append, this, List.getElem?_eq_getElem hi]; rfl
  have hgetN : ∀ {s}, ρ.inv s = none → hget (fxApp H (fxBack L (renBs ρ bk) ++ fxTold d (renBs ρ ou) 0)) s = hget H s := fun {s} hi => by
    rw [fxApp_append, b2 s fun j hj h => ?_, a2 s fun h => ?_]
    · obtain ⟨i, hs⟩ := List.getElem?_of_mem h
      rw [hinL hs] at hi; cases hi
    · rw [renBs_len] at hj
      have : ρ.get (.out j) = some (.told d j) := by
        rw [← hρ, get_append_iff]
        refine .inr ⟨?_, renTold_get.2 ⟨j, by simp, hj, by simp⟩⟩
        cases hg : (renBack L 0).get (.out j) with
        | none => rfl
        | some s' => obtain ⟨i, h1, _⟩ := renBack_get.1 hg; cases h1
      rw [Nat.zero_add] at h
      rw [h, get_inv ho this] at hi; cases hi
  have hgetC : ∀ {s c}, ρ.inv s = some c → hget (fxApp H (fxBack L (renBs ρ bk) ++ fxTold d (renBs ρ ou) 0)) s = (hget (incH 0 bk ++ outH 0 ou) c).map (renB ρ) := fun {s c} hi => by
    rcases hinv hi with ⟨i, rfl, hs⟩ | ⟨i, rfl, hi', rfl⟩
    · rw [hgetL hs, hbk i (List.getElem?_eq_some_iff.1 hs).1]
    · rw [hgetO hi', hou i hi']
  have hold : ∀ {s B b e z}, hget H s = some B → B.live → ρ.inv s = none → m s = .at b e z → ∀ s' ∈ L, ∀ e' z', m s' ≠ .at b e' z' := fun {s B b e z} hB hl hi hm s' hs' e' z' hm' => by
    obtain ⟨B', hB', hl'⟩ := hL s' hs'
    have := hI.inj _ _ _ _ _ _ _ _ _ hB hB' hl hl' hm hm'
    subst this
    obtain ⟨i, hs⟩ := List.getElem?_of_mem hs'
    rw [hinL hs] at hi; cases hi
  have hcross : ∀ {s1 s2 B1 b e z e' z' c}, hget H s1 = some B1 → B1.live → ρ.inv s1 = none → m s1 = .at b e z → ρ.inv s2 = some c → m'' c = .at b e' z' → False := fun {s1 s2 B1 b e z e' z' c} hB hl hi hm hi2 hm2 => by
    rcases hG'.own _ _ _ _ hm2 with ⟨i, e3, z3, hc⟩ | h3
    · obtain ⟨s, hs, hm3⟩ := hmcI hc
      exact hold hB hl hi hm s (List.mem_of_getElem? hs) _ _ hm3
    · have := hI.lt _ _ _ _ hm
      omega
  refine ⟨m', hget', hext, ⟨hI'.phi, fun s B hB => ?_, fun s hs => ?_, fun s1 s2 B1 B2 b e z e' z' h1 h2 l1 l2 hm1 hm2 => ?_, fun s b e z hm => ?_⟩, ⟨fun b o x h => hG'.phi _ _ _ (hG.phi _ _ _ h), fun b o h h0 => ?_, fun i b e z h => hext.map _ _ _ _ (hG.inc i b e z h), fun s b e z hm => ?_,
    fun b hb h => ?_, Nat.le_trans hG.size hG'.size, hG'.os.trans hG.os, hG'.out.trans hG.out, hG'.tape.trans hG.tape, hG.base⟩, hstay⟩
  · cases hi : ρ.inv s with
    | some c =>
      rw [hgetC hi] at hB
      cases hc : hget (incH 0 bk ++ outH 0 ou) c with
      | none => rw [hc] at hB; cases hB
      | some B' =>
        rw [hc] at hB
        cases hB
        exact ren_blk hget' (hmsome hi) (hI'.blk c B' hc)
    | none =>
      rw [hgetN hi] at hB
      by_cases hl : B.live
      · exact (hI.blk s B hB).keep (hmnone hi) hext fun b e z hm => hnf (hI.lt _ _ _ _ hm) (hold hB hl hi hm)
      · cases B <;> first | exact absurd trivial hl | trivial
  · cases hi : ρ.inv s with
    | some c =>
      rw [hgetC hi] at hs
      rw [hmsome hi]
      exact hI'.map c (by cases hc : hget (incH 0 bk ++ outH 0 ou) c with | none => rfl | some B => rw [hc] at hs; cases hs)
    | none =>
      rw [hgetN hi] at hs
      rw [hmnone hi]
      exact hI.map s hs
  · cases i1 : ρ.inv s1 with
    | some c1 =>
      rw [hgetC i1] at h1
      rw [hmsome i1] at hm1
      cases k1 : hget (incH 0 bk ++ outH 0 ou) c1 with
      | none => rw [k1] at h1; cases h1
      | some C1 =>
        rw [k1] at h1
        cases h1
        cases i2 : ρ.inv s2 with
        | some c2 =>
          rw [hgetC i2] at h2
          rw [hmsome i2] at hm2
          cases k2 : hget (incH 0 bk ++ outH 0 ou) c2 with
          | none => rw [k2] at h2; cases h2
          | some C2 =>
            rw [k2] at h2
            cases h2
            have := hI'.inj _ _ _ _ _ _ _ _ _ k1 k2 (renB_live.1 l1) (renB_live.1 l2) hm1 hm2
            subst this
            have e1 := inv_get ho i1
            rw [inv_get ho i2] at e1
            cases e1; rfl
        | none =>
          rw [hgetN i2] at h2
          rw [hmnone i2] at hm2
          exact (hcross h2 l2 i2 hm2 i1 hm1).elim
    | none =>
      rw [hgetN i1] at h1
      rw [hmnone i1] at hm1
      cases i2 : ρ.inv s2 with
      | some c2 =>
        rw [hmsome i2] at hm2
        exact (hcross h1 l1 i1 hm1 i2 hm2).elim
      | none =>
        rw [hgetN i2] at h2
        rw [hmnone i2] at hm2
        exact hI.inj _ _ _ _ _ _ _ _ _ h1 h2 l1 l2 hm1 hm2
  · cases hi : ρ.inv s with
    | some c => rw [hmsome hi] at hm; exact hI'.lt _ _ _ _ hm
    | none => rw [hmnone hi] at hm; exact Nat.lt_of_lt_of_le (hI.lt _ _ _ _ hm) hG'.size
  · by_cases h1 : Φ b o = none
    · rcases hG'.phiNew b o h h1 with ⟨i, e, z, hc⟩ | h3
      · obtain ⟨s, hs, hm⟩ := hmcI hc
        exact hG.own _ _ _ _ hm
      · exact .inr (Nat.le_trans hG.size h3)
    · exact hG.phiNew b o h1 h0
  · cases hi : ρ.inv s with
    | some c =>
      rw [hmsome hi] at hm
      rcases hG'.own _ _ _ _ hm with ⟨i, e3, z3, hc⟩ | h3
      · obtain ⟨s', hs, hm3⟩ := hmcI hc
        exact hG.own _ _ _ _ hm3
      · exact .inr (Nat.le_trans hG.size h3)
    | none => rw [hmnone hi] at hm; exact hG.own _ _ _ _ hm
  · rw [← hG.same b hb h]
    refine hstay b (Nat.lt_of_lt_of_le hb hG.size) fun s hs e z hm => ?_
    rcases hG.own _ _ _ _ hm with ⟨i, e3, z3, hc⟩ | h3
    · exact h i e3 z3 hc
    · omega
end
end Go.Ab
