/- Rows made: slices built, texts as bytes, values filled. -/
import Derived.Test.YtmkkhaonakdgpaaDoorAbMem
namespace Go.Ab
open Go
section
variable {Φg : Phi} {α : Type} {X : Ctx} {fid : FuncId} {P : Program} {n : Nat} {draw : Bool} {s : St} {o : Oper} {k : Script → DT α} {Q : α → Prop} {a : Act} {w w' w₀ : World}
  {Φ Φ' Φ₀ : Phi} {m m' i₀ : LMap} {Qx : Exit → Act → World → Prop} {tab : Tab}

/-- Cells laid into a row, one by one. -/
theorem setRun : ∀ (l : List Value) (n off : Nat) (cs : Array Value), off + n + l.length ≤ cs.size →
    ((l.zipIdx n).foldl (fun (cs : Array Value) (p : Value × Nat) => cs.setIfInBounds (off + p.2) p.1) cs).toList = cs.toList.take (off + n) ++ l ++ cs.toList.drop (off + n + l.length)
  | [], n, off, cs, _ => by simp
  | v :: r, n, off, cs, h => by
    simp only [List.length_cons] at h
    rw [List.zipIdx_cons, List.foldl_cons, setRun r (n + 1) off (cs.setIfInBounds (off + n) v) (by simp; omega)]
    simp only [Array.toList_setIfInBounds]
    have hlt : off + n < cs.toList.length := by rw [Array.length_toList]; omega
    have ht : (cs.toList.set (off + n) v).take (off + n + 1) = cs.toList.take (off + n) ++ [v] := by
      rw [List.set_eq_take_append_cons_drop, if_pos hlt, List.take_append]
      have : (cs.toList.take (off + n)).length = off + n := by rw [List.length_take]; omega
      rw [this, List.take_of_length_le (by omega), show off + n + 1 - (off + n) = 1 by omega]
      rfl
    rw [show off + (n + 1) = off + n + 1 by omega, List.drop_set_of_lt (by omega), ht, show off + n + 1 + r.length = off + n + (v :: r).length by simp; omega]
    simp

theorem fill_one {place : Nat → Option (Nat × Nat)} {cells : Array Value} {i off size : Nat} {v : Value} {rest : List (Nat × Value)} (hp : place i = some (off, size)) (hs : v.cells.size = size) (hb : off + size ≤ cells.size) :
    Instr.fill place cells ((i, v) :: rest) = Instr.fill place (cells.toList.take off ++ v.cells.toList ++ cells.toList.drop (off + size)).toArray rest := by
  rw [Instr.fill, hp]
  simp only
  rw [if_neg (by simp [hs]; omega)]
  congr 1
  have := setRun v.cells.toList 0 off cells (by simpa [hs] using hb)
  rw [← Array.toList_inj]
  rw [← Array.foldl_toList, Array.toList_zipIdx]
  simpa [hs] using this

theorem setCells_eq : ∀ (l : List AV) (o : Nat) (ds : List AV), o + ds.length ≤ l.length → setCells l o ds = l.take o ++ ds ++ l.drop (o + ds.length)
  | [], o, ds, h => by simp at h; obtain ⟨rfl, h⟩ := h; have : ds = [] := by simpa using h
                       subst this; rfl
  | c :: r, 0, [], _ => by simp [setCells]
  | c :: r, 0, d :: ds, h => by
    simp only [setCells]
    rw [setCells_eq r 0 ds (by simp at h ⊢; omega)]
    simp
  | c :: r, o + 1, ds, h => by
    simp only [setCells]
    rw [setCells_eq r o ds (by simp at h ⊢; omega)]
    simp [Nat.add_right_comm]

theorem fillD_ok (hP : TabOK P tab) {cfg : Cfg} (hc : cfg.tab = tab) {fs : List (Nat × TypeId)} {place : Nat → Option (Nat × Nat)}
    (hpl : ∀ (i off t : Nat) (fi : TI), fs[i]? = some (off, t) → tab.get t = some fi → place i = some (off, fi.sz)) :
    ∀ {l : List (Nat × AV)} {vs : List (Nat × Value)} {cs cs' : List AV} {xs : Array Value}, fillD cfg cs fs l = some cs' → (l.map (·.1) = vs.map (·.1)) → Rs Φ m (l.map (·.2)) (vs.map (·.2)) → Rs Φ m cs xs.toList →
      ∃ ys, Instr.fill place xs vs = some ys ∧ Rs Φ m cs' ys.toList
  | [], vs, cs, cs', xs, h, h1, h2, h3 => by
    simp only [fillD, Option.some.injEq] at h
    subst h
    cases vs with
    | nil => exact ⟨xs, rfl, h3⟩
    | cons => simp at h1
  | (i, v) :: r, vs, cs, cs', xs, h, h1, h2, h3 => by
    cases vs with
    | nil => simp at h1
    | cons u us =>
      obtain ⟨i', y⟩ := u
      simp only [List.map_cons, List.cons.injEq] at h1
      obtain ⟨rfl, h1⟩ := h1
      simp only [fillD] at h
      split at h
      · rename_i off t hf
        split at h
        · rename_i fi hfi
          cases hb : (Nat.beq v.cells.length fi.sz && Nat.ble (off + fi.sz) cs.length && allOneCell v.cells) with
          | false => rw [hb] at h; cases h
          | true =>
            rw [hb] at h
            simp only [Bool.and_eq_true, Nat.beq_eq] at hb
            obtain ⟨⟨hb1, hb2⟩, hb3⟩ := hb
            have hb2 := Nat.le_of_ble_eq_true hb2
            simp only [List.map_cons] at h2
            obtain ⟨y', r', he, hr, hrs⟩ := h2.inv_cons
            cases he
            have hvc := hr.cells (allOne_ne_top hb3)
            have hlen : xs.size = cs.length := by have := h3.1; simpa using this.symm
            have hylen : y.cells.size = fi.sz := by have := hvc.1; rw [← hb1]; simpa using this.symm
            obtain ⟨ys, g1, g2⟩ := fillD_ok hP hc hpl (l := r) (vs := us) (xs := (xs.toList.take off ++ y.cells.toList ++ xs.toList.drop (off + fi.sz)).toArray) h h1 hrs (by
              rw [setCells_eq _ _ _ (by omega), hb1]
              exact ((h3.take off).append hvc).append (h3.drop (off + fi.sz)))
            exact ⟨ys, by rw [fill_one (hpl i off t fi hf (hc ▸ hfi)) hylen (by omega)]; exact g1, g2⟩
        · cases h
      · cases h

theorem parts_ok (hT : RT Φ m s.T a.tmps) : ∀ {ps : List (Nat × Operand)} {l : List (Nat × AV)}, parts s ps = some l →
    l.map (·.1) = (ps.map fun p => (p.1, a.eval p.2)).map (·.1) ∧ Rs Φ m (l.map (·.2)) ((ps.map fun p => (p.1, a.eval p.2)).map (·.2))
  | [], l, h => by simp only [parts, Option.some.injEq] at h; subst h; exact ⟨rfl, .nil⟩
  | (i, x) :: r, l, h => by
    simp only [parts] at h
    split at h
    · rename_i v hv
      split at h
      · rename_i l' hl'
        cases h
        obtain ⟨h1, h2⟩ := parts_ok hT hl'
        exact ⟨by simp only [List.map_cons, h1], .cons (opnd_eval hT hv) h2⟩
      · cases h
    · cases h

theorem mapM_ok {β γ : Type} : ∀ (l : List β) (g : β → Sem γ) (h : β → γ), (∀ x ∈ l, (g x).run P w = .ok (h x) w) → (l.mapM g).run P w = .ok (l.map h) w
  | [], _, _, _ => rfl
  | x :: r, g, h, hh => by
    simp only [List.mapM_cons, Sem.run_bind, hh x (List.mem_cons_self ..), Result.andThen_ok, mapM_ok r g h (fun y hy => hh y (List.mem_cons_of_mem _ hy)), Sem.run_pure, List.map_cons]

theorem op_build (hP : TabOK P tab) (hX : X.cfg.tab = tab) {t : TypeId} {ps : Array (Nat × Operand)} (hop : o.op = .build t ps) (h : SatN X fid n (opR X.cfg draw s o k) Q) (hT : RT Φ m s.T a.tmps)
    (hI : Inv Φ m w s.H) (hG : Glob Φg Φ₀ i₀ w₀ Φ m w) : o.wp P a w (After P Φg X fid n k Q Φ₀ i₀ w₀ o s a w Φ m) Qx := by
  unfold opR at h
  rw [hop] at h
  dsimp only at h
  split at h
  · rename_i ti l hti hl
    obtain ⟨ii, d, hii, hsz, _, hu, hsh, hag, hzz, harr⟩ := hP.get (hX ▸ hti)
    obtain ⟨hl1, hl2⟩ := parts_ok (a := a) hT hl
    split at h
    · rename_i z hagg hz
      split at h
      · rename_i cs hcs
        rw [spine_eq] at h
        obtain ⟨zv, hz1, hz2⟩ := zero_ok hP hX hti hz
        have hzr : Rs Φ m z.cells zv.cells.toList := (R.value hz2).cells (fun e => ofValue_ne_top (e ▸ hz2))
        have hmap : (ps.map fun x => match x with | (i, x) => (i, a.eval x)).toList = ps.toList.map fun p => (p.1, a.eval p.2) := by simp
        rcases hag.1 hagg with ⟨fs, rfl⟩ | ⟨ne, et, rfl⟩
        · -- a struct
          obtain ⟨hlen, hfs⟩ := harr.2 fs rfl
          have hrun : ∀ w : World, _ := fun w => mapM_ok (P := P) (w := w) fs.toList (fun f => do pure (f.offset, ← sizeOf f.type)) (fun f => (f.offset, P.cellsOf f.type)) (fun f hf => by
            obtain ⟨i, hi⟩ := List.getElem?_of_mem hf
            obtain ⟨_, fi, hfi⟩ := hfs i f (by simpa using hi)
            obtain ⟨ifo, d', hif, hsz', _⟩ := hP.get hfi
            simp [run_size hif, Program.cellsOf, hif])
          obtain ⟨ys, h1, h2⟩ := fillD_ok hP hX (place := fun i => ((fs.toList.map fun f => (f.offset, P.cellsOf f.type)).toArray[i]?)) (fun i off t fi hf hfi => by
            have : i < fs.size := by
              rcases Nat.lt_or_ge i fs.size with h' | h'
              · exact h'
              · exfalso
                have := (List.getElem?_eq_some_iff.1 hf).1
                omega
            have hg : fs[i]? = some fs[i] := by simp [this]
            obtain ⟨h3, fi', h4⟩ := hfs i _ hg
            rw [hf] at h3
            cases h3
            obtain ⟨ifo, d', hif, hsz', _⟩ := hP.get hfi
            simp [hg, Program.cellsOf, hif, hsz']) hcs hl1 hl2 hzr
          refine pure_ok (x := .agg ys) ?_ (.aggs h2) h hI hG
          intro w1 _
          simp only [execOp, hop, Instr.build, Sem.run_bind, hz1, Result.andThen_ok, run_under hu, Array.mapM_eq_mapM_toList, Sem.run_map, hrun, hmap]
          have h1' : Instr.fill (fun x => (fs.toList.map fun f => (f.offset, P.cellsOf f.type)).toArray[x]?) zv.cells (ps.toList.map fun p => (p.1, a.eval p.2)) = some ys := h1
          rw [h1']
          simp
        · -- an array
          obtain ⟨⟨te, hte, hfo⟩, _⟩ := (⟨harr.1 ne et rfl, trivial⟩ : (∃ te, tab.get et = some te ∧ ∀ (j o u : Nat), ti.fields[j]? = some (o, u) → o = j * te.sz ∧ u = et) ∧ True)
          obtain ⟨ie, de, hie, hsze, _⟩ := hP.get hte
          obtain ⟨ys, h1, h2⟩ := fillD_ok hP hX (place := fun i => some (i * te.sz, te.sz)) (fun i off t fi hf hfi => by
            obtain ⟨h3, h4⟩ := hfo i off t hf
            subst h4
            rw [hte] at hfi
            cases hfi
            rw [h3]) hcs hl1 hl2 hzr
          refine pure_ok (x := .agg ys) ?_ (.aggs h2) h hI hG
          intro w1 _
          simp only [execOp, hop, Instr.build, Sem.run_bind, hz1, Result.andThen_ok, run_under hu, run_size hie, hmap, hsze]
          rw [h1]
          simp
      · exact h.no_fail.elim
    · exact h.no_fail.elim
  · exact h.no_fail.elim
end
end Go.Ab
