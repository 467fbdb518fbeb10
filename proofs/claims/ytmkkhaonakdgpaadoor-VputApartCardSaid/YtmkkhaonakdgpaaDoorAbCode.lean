/- Versions as bytes: unlike ones have unlike bytes, none's beginning with another one's. Plain Lean. -/
import Derived.Test.YtmkkhaonakdgpaaDoorAbMesh
namespace Go.Ab
open Go
theorem numB_inj : ∀ (a b : Nat) (x y : List UInt8), numB a ++ x = numB b ++ y → a = b ∧ x = y := by
  intro a
  induction a using Nat.strongRecOn with
  | ind a ih =>
    intro b x y h
    by_cases ha : 128 ≤ a
    · rw [numB_big ha] at h
      by_cases hb : 128 ≤ b
      · rw [numB_big hb] at h
        simp only [List.cons_append, List.cons.injEq] at h
        obtain ⟨h1, h2⟩ := h
        have h3 := congrArg UInt8.toNat h1
        simp only [UInt8.toNat_ofNat'] at h3
        obtain ⟨h4, h5⟩ := ih (a / 128) (by omega) (b / 128) x y h2
        exact ⟨by omega, h5⟩
      · rw [numB_small hb] at h
        simp only [List.cons_append, List.cons.injEq, List.nil_append] at h
        have h3 := congrArg UInt8.toNat h.1
        simp only [UInt8.toNat_ofNat'] at h3
        omega
    · rw [numB_small ha] at h
      by_cases hb : 128 ≤ b
      · rw [numB_big hb] at h
        simp only [List.cons_append, List.cons.injEq, List.nil_append] at h
        have h3 := congrArg UInt8.toNat h.1
        simp only [UInt8.toNat_ofNat'] at h3
        omega
      · rw [numB_small hb] at h
        simp only [List.cons_append, List.cons.injEq, List.nil_append] at h
        have h3 := congrArg UInt8.toNat h.1
        simp only [UInt8.toNat_ofNat'] at h3
        exact ⟨by omega, h.2⟩
theorem textB_inj {s t x y : List UInt8} (h : textB s ++ x = textB t ++ y) : s = t ∧ x = y := by
  unfold textB at h
  rw [List.append_assoc, List.append_assoc] at h
  obtain ⟨h1, h2⟩ := numB_inj _ _ _ _ h
  exact List.append_inj h2 h1
theorem attrsB_inj : ∀ {l k : List Attr} {x y : List UInt8}, l.length = k.length → (∀ a ∈ l, 0 ≤ a.Key ∧ 0 ≤ a.Val) → (∀ a ∈ k, 0 ≤ a.Key ∧ 0 ≤ a.Val) → attrsB l ++ x = attrsB k ++ y → l = k ∧ x = y
  | [], [], x, y, _, _, _, h => ⟨rfl, by simpa [attrsB] using h⟩
  | [], b :: k, _, _, h, _, _, _ => by cases h
  | a :: l, [], _, _, h, _, _, _ => by cases h
  | a :: l, b :: k, x, y, hl, h1, h2, h => by
    simp only [attrsB, List.flatMap_cons, List.append_assoc] at h
    obtain ⟨e1, h⟩ := numB_inj _ _ _ _ h
    obtain ⟨e2, h⟩ := numB_inj _ _ _ _ h
    obtain ⟨e3, e4⟩ := attrsB_inj (l := l) (k := k) (by simpa using hl) (fun c hc => h1 c (List.mem_cons_of_mem _ hc)) (fun c hc => h2 c (List.mem_cons_of_mem _ hc)) h
    have a1 := h1 a (List.mem_cons_self ..); have b1 := h2 b (List.mem_cons_self ..)
    exact ⟨by rw [e3]; congr 1; exact Attr.ext (by omega) (by omega), e4⟩
theorem vers_inj {v w : Version} (hv : v.may = true) (hw : w.may = true) {x y : List UInt8} (h : putVers [] v ++ x = putVers [] w ++ y) : v = w ∧ x = y := by
  have f := Version.may_fit hv; have g := Version.may_fit hw
  simp only [putVers, hv, hw, if_true, versB, List.nil_append, List.append_assoc] at h
  obtain ⟨e1, h⟩ := numB_inj _ _ _ _ h
  obtain ⟨e2, h⟩ := numB_inj _ _ _ _ h
  obtain ⟨e3, h⟩ := numB_inj _ _ _ _ h
  obtain ⟨e4, h⟩ := numB_inj _ _ _ _ h
  obtain ⟨e5, h⟩ := numB_inj _ _ _ _ h
  obtain ⟨e6, h⟩ := numB_inj _ _ _ _ h
  obtain ⟨e7, h⟩ := attrsB_inj e6 (fun a ha => ⟨(f.av a ha).1, (f.av a ha).2.2.1⟩) (fun a ha => ⟨(g.av a ha).1, (g.av a ha).2.2.1⟩) h
  obtain ⟨e8, h⟩ := textB_inj h
  obtain ⟨e9, h⟩ := textB_inj h
  refine ⟨Version.ext ?_ (Stamp.ext ?_ ?_ ?_) ?_ e7 e8 e9, h⟩
  · have := f.i0; have := g.i0; omega
  · have := f.l0; have := g.l0; omega
  · have := f.r0; have := g.r0; omega
  · have := f.n0; have := g.n0; omega
  · cases hd : v.Dead <;> cases he : w.Dead <;> simp_all
theorem numB_ne (v : Nat) : numB v ≠ [] := by unfold numB; split <;> simp
theorem putVers_nil {v : Version} (hv : v.may = true) : putVers [] v ≠ [] := by
  simp only [putVers, hv, if_true, versB, List.nil_append, List.append_assoc]
  intro h
  exact numB_ne _ (List.append_eq_nil_iff.1 h).1
theorem vers_front {v w : Version} (hv : v.may = true) (hw : w.may = true) : ((putVers [] v).length ≤ (putVers [] w).length ∧ (putVers [] w).take (putVers [] v).length = putVers [] v) ↔ v = w := by
  constructor
  · rintro ⟨_, h2⟩
    have h3 := List.take_append_drop (putVers [] v).length (putVers [] w)
    rw [h2] at h3
    exact (vers_inj hv hw (x := (putVers [] w).drop (putVers [] v).length) (y := []) (by rw [h3]; simp)).1
  · rintro rfl; exact ⟨Nat.le_refl _, List.take_length⟩

/-! ### Versions of numbers -/
theorem attrsMay_app : ∀ {l : List Attr} {last : Int} {a : Attr}, attrsMay last l = true → (∀ b ∈ l, b.Key < a.Key) → last < a.Key → a.Key < 4 → 0 ≤ a.Val → a.Val ≤ 99 → attrsMay last (l ++ [a]) = true
  | [], last, a, _, _, h1, h2, h3, h4 => by simp [attrsMay]; omega
  | b :: l, last, a, h, hb, h1, h2, h3, h4 => by
    simp only [attrsMay, Bool.and_eq_true, List.cons_append] at h ⊢
    exact ⟨h.1, attrsMay_app h.2 (fun c hc => hb c (List.mem_cons_of_mem _ hc)) (hb b (List.mem_cons_self ..)) h2 h3 h4⟩
theorem attrVals_in (i : Nat) : 0 ≤ attrVals.getD i 0 ∧ attrVals.getD i 0 ≤ 99 := by
  unfold attrVals
  match i with
  | 0 | 1 | 2 | 3 | 4 | 5 => decide
  | n + 6 => simp
theorem Picks.attrsAt_may : ∀ (f : Nat) (p : Picks) (k : Nat) (l : List Attr), attrsMay (-1) l = true → (∀ b ∈ l, b.Key < k) → attrsMay (-1) (p.attrsAt f k l).1 = true
  | 0, p, k, l, h, _ => h
  | f + 1, p, k, l, h, hb => by
    simp only [Picks.attrsAt]
    split
    · rename_i hc
      split
      · refine Picks.attrsAt_may f _ _ _ (attrsMay_app h (fun b hm => hb b hm) (by simp only; omega) (by simp only; omega) (attrVals_in _).1 (attrVals_in _).2) fun b hm => ?_
        rcases List.mem_append.1 hm with hm | hm
        · have := hb b hm; omega
        · rw [List.mem_singleton.1 hm]; simp only; omega
      · exact Picks.attrsAt_may f _ _ _ h fun b hm => by have := hb b hm; omega
    · exact h
theorem Picks.attrs_may (p : Picks) : attrsMay (-1) p.attrs.1 = true := Picks.attrsAt_may _ _ _ _ rfl (fun b hb => by cases hb)
theorem Picks.tag_mem (p : Picks) : p.tag.1 ∈ tags := by
  have h0 := p.num_lo 6; have h1 := p.num_hi (m := 6) (by omega)
  show tags.getD (p.num 6).1.toNat [] ∈ tags
  have : (p.num 6).1.toNat < tags.length := by show _ < 6; omega
  rw [List.getD_eq_getElem?_getD, List.getElem?_eq_getElem this]
  exact List.getElem_mem this
theorem tags_ok : ∀ t ∈ tags, t.all isLetter = true ∧ t.length ≤ 6 := by decide
theorem Picks.version_parts (p : Picks) : attrsMay (-1) p.version.1.Attrs = true ∧ p.version.1.Tag ∈ tags ∧ (p.version.1.Dead = true → p.version.1.Body = []) := by
  simp only [Picks.version]
  generalize p.num 6 = i
  generalize i.2.stamp = s
  have ha := s.2.attrs_may
  generalize s.2.attrs = a at *
  have ht := a.2.tag_mem
  generalize a.2.tag = t at *
  split
  · exact ⟨ha, ht, fun _ => rfl⟩
  · exact ⟨ha, ht, fun h => by cases h⟩
theorem Picks.version_may (p : Picks) : p.version.1.may = true := by
  have h := p.version_like
  obtain ⟨h1, h2, h3⟩ := p.version_parts
  obtain ⟨t1, t2⟩ := tags_ok _ h2
  have hi := h.i0; have hi1 := h.i1; have hl := h.l0; have hl1 := h.l1; have hr := h.r0; have hr1 := h.r1; have hn := h.n0; have hn1 := h.n1; have ha := h.attrs; have hb := h.body
  simp only [Version.may, Stamp.may, h1, t1, Bool.and_eq_true, decide_eq_true_eq, Bool.not_eq_true', Bool.and_true, true_and]
  refine ⟨⟨⟨⟨⟨by omega, by omega⟩, ha⟩, t2⟩, hb⟩, ?_⟩
  cases hd : p.version.1.Dead with
  | false => rfl
  | true => simp [h3 hd]
end Go.Ab
