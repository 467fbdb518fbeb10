/- Rows made: slices built, texts as bytes; rows that grow. -/
import Derived.Test.YtmkkhaonakdgpaaDoorAbClose
namespace Go.Ab
open Go
section
variable {Φg : Phi} {α : Type} {X : Ctx} {fid : FuncId} {P : Program} {n : Nat} {draw : Bool} {s : St} {o : Oper} {k : Script → DT α} {Q : α → Prop} {a : Act} {w w' w₀ : World}
  {Φ Φ' Φ₀ : Phi} {m m' i₀ : LMap} {Qx : Exit → Act → World → Prop} {tab : Tab}

theorem flat_at : ∀ {xs : List AV} {e i j : Nat} {v c : AV}, (∀ u ∈ xs, u.cells.length = e) → xs[i]? = some v → v.cells[j]? = some c → (xs.flatMap AV.cells)[i * e + j]? = some c
  | [], e, i, j, v, c, _, h, _ => by simp at h
  | u :: r, e, 0, j, v, c, he, h, hc => by
    simp at h; subst h
    rw [List.flatMap_cons, Nat.zero_mul, Nat.zero_add, List.getElem?_append_left]
    · exact hc
    · exact (List.getElem?_eq_some_iff.1 hc).1
  | u :: r, e, i + 1, j, v, c, he, h, hc => by
    rw [List.flatMap_cons, List.getElem?_append_right]
    · have := flat_at (xs := r) (e := e) (fun u hu => he u (List.mem_cons_of_mem _ hu)) (by simpa using h) hc
      rw [he u (List.mem_cons_self ..), show (i + 1) * e + j - e = i * e + j by rw [Nat.add_mul]; omega]
      exact this
    · rw [he u (List.mem_cons_self ..), Nat.add_mul]; omega
theorem flat_len : ∀ {xs : List AV} {e : Nat}, (∀ u ∈ xs, u.cells.length = e) → (xs.flatMap AV.cells).length = xs.length * e
  | [], e, _ => by simp
  | u :: r, e, he => by
    rw [List.flatMap_cons, List.length_append, he u (List.mem_cons_self ..), flat_len (e := e) (fun u hu => he u (List.mem_cons_of_mem _ hu)), List.length_cons, Nat.add_mul]; omega

/-- A new row. -/
theorem row_new {st : Site} {xs : List AV} {e : Nat} {cs : Array Value} {t : TypeId} {wr rm : Bool} (hpos : 0 < e) (he : ∀ u ∈ xs, u.cells.length = e) (h1 : ∀ u ∈ xs, allOneCell u.cells = true) (hr : Rs Φ m0 (xs.flatMap AV.cells) (cs.toList.take (xs.length * e)))
    (hphi : ∀ o, Φ w.heap.size o = none) :
    BlkOk Φ (upd m st (.at w.heap.size e (cs.size, xs.length))) (w.alloc (.cells cs t)) st (.row e xs wr rm) := by
  have hlen : xs.length * e ≤ cs.size := by
    have := hr.1
    rw [flat_len he, List.length_take] at this
    simp at this; omega
  refine .inr ⟨w.heap.size, cs.size, upd_same _ _ _, hpos, hlen, ⟨t, shape_new _ _⟩, fun i v hv => he v (List.mem_of_getElem? hv), fun i v j c hv hc => ?_, fun o _ => World.frozen?_alloc_new _ _ _ _, fun _ o => hphi o, fun o ho => absurd (hphi o) ho, fun i v hv => h1 v (List.mem_of_getElem? hv)⟩
  obtain ⟨x, hx, hxr⟩ := hr.2 _ _ (flat_at he hv hc)
  refine ⟨x, ?_, hxr⟩
  rw [World.cell?_alloc_new]
  rw [List.getElem?_take] at hx
  split at hx
  · simpa using hx
  · cases hx

theorem sref_new {st : Site} {b e len size : Nat} (h : len * e ≤ size) : R Φ (upd m st (.at b e (size, len))) (.sref st 0 len) (.slice (some ⟨b, 0, none⟩) len len) := by
  have := R.sref (Φ := Φ) (m := upd m st (.at b e (size, len))) (s := st) (lo := 0) (len := len) (cap := len) (upd_same m st (.at b e (size, len))) (Nat.le_refl _) (by simpa using h) (by simp)
  simpa using this
theorem sref_new' {st : Site} {b e len cap size : Nat} (h : len ≤ cap) (h' : cap * e ≤ size) : R Φ (upd m st (.at b e (size, len))) (.sref st 0 len) (.slice (some ⟨b, 0, none⟩) len cap) := by
  have := R.sref (Φ := Φ) (m := upd m st (.at b e (size, len))) (s := st) (lo := 0) (len := len) (cap := cap) (upd_same m st (.at b e (size, len))) h (by simpa using h') (by simp)
  simpa using this

/-- An operation that lets blocks change no more, and makes one new block. -/
theorem frz_alloc_ok {L : List Site} {st : Site} {B : Blk} {v : AV} {x : Value} {rd : Acc} {ob : Obj} {e : Nat} {z : Nat × Nat} (hrun : (execOp a.eval o).run P w = .ok (.value x) (w.alloc ob)) (hs : hget s.H st = none)
    (hI : Inv Φ m w s.H) (hG : Glob Φg Φ₀ i₀ w₀ Φ m w)
    (hB : BlkOk (frzPhi Φ m w s.H L) (upd m st (.at w.heap.size e z)) (w.alloc ob) st B) (hr : R (frzPhi Φ m w s.H L) (upd m st (.at w.heap.size e z)) v x) (h : SatN X fid n (k ⟨v, frzAll L ++ [.alloc st B], rd⟩) Q) :
    o.wp P a w (After P Φg X fid n k Q Φ₀ i₀ w₀ o s a w Φ m) Qx := by
  unfold Oper.wp
  rw [hrun]
  have hI' := hI.frz L
  have hs' : hget (fxApp s.H (frzAll L)) st = none := by rw [hget_frz, hs]; rfl
  have happ : ∀ (l r : List Fx) (H : Heap), fxApp H (l ++ r) = fxApp (fxApp H l) r := by
    intro l
    induction l with
    | nil => intro r H; rfl
    | cons f l ih => intro r H; exact ih r _
  refine ⟨_, _, ⟨v, frzAll L ++ [.alloc st B], rd⟩, x, h, hr, rfl, (frzPhi_ext hI).trans (Ext.upd (hI.map st hs)), ?_, ?_, Stays.alloc, fun h => by simp at h⟩
  · simp only [happ]
    exact hI'.alloc hs' hB
  · exact (hG.frz L hI).alloc (hI.map st hs)

theorem allCells_ok {e : Nat} : ∀ {xs : List AV}, allCells e xs = true → ∀ u ∈ xs, u.cells.length = e ∧ allOneCell u.cells = true
  | [], _, u, h => by simp at h
  | v :: r, h, u, hu => by
    simp only [allCells, Bool.and_eq_true, Nat.beq_eq] at h
    rcases List.mem_cons.1 hu with rfl | hu
    · exact ⟨h.1.1, h.1.2⟩
    · exact allCells_ok h.2 u hu

theorem closeV_one {H : Heap} {all : Bool} {n : Nat} {L L' : List Site} {v v' : AV} (h : closeV H all n L v = some (v', L')) (h1 : isOneCell v = true) : isOneCell v' = true := by
  cases n with
  | zero => simp [closeV] at h
  | succ n =>
    unfold closeV at h
    cases hh : AV.hasRef v with
    | false => rw [hh] at h; cases h; exact h1
    | true =>
      rw [hh] at h
      simp only [cond_true] at h
      split at h
      · cases h1
      · cases h1
      · split at h <;> cases h; rfl
      · split at h
        · split at h <;> cases h; rfl
        · cases h
      · cases h; rfl
      · rename_i st i o
        cases hb : (!all && st.isInc) with
        | true => rw [hb] at h; cases h; rfl
        | false =>
          rw [hb] at h
          simp only [cond_false] at h
          split at h
          · rename_i u wr hg
            cases hu : AV.hasRef u with
            | false => rw [hu] at h; cases h; rfl
            | true =>
              rw [hu] at h
              simp only [cond_true] at h
              split at h
              · split at h <;> cases h; rfl
              · split at h
                · rename_i v2 L2 _
                  cases ho : isOneCell v2 with
                  | true => rw [ho] at h; cases h; rfl
                  | false => rw [ho] at h; cases h
                · cases h
          · cases h
      · rename_i st lo len
        cases hb : (!all && st.isInc) with
        | true => rw [hb] at h; cases h; rfl
        | false =>
          rw [hb] at h
          simp only [cond_false] at h
          split at h
          · split at h
            · cases h; rfl
            · cases h
          · cases h
      · cases h
theorem closeVs_all {H : Heap} {all : Bool} : ∀ {n : Nat} {L L' : List Site} {vs vs' : List AV}, closeVs H all n L vs = some (vs', L') → allOneCell vs = true → allOneCell vs' = true
  | 0, _, _, _, _, h, _ => by simp [closeVs] at h
  | n + 1, L, L', [], vs', h, _ => by simp only [closeVs, Option.some.injEq, Prod.mk.injEq] at h; obtain ⟨rfl, _⟩ := h; rfl
  | n + 1, L, L', v :: r, vs', h, h1 => by
    simp only [allOneCell, Bool.and_eq_true] at h1
    unfold closeVs at h
    split at h
    · rename_i v' L1 hv
      split at h
      · rename_i r' L2 hr
        cases h
        simp only [allOneCell, Bool.and_eq_true]
        exact ⟨closeV_one hv h1.1, closeVs_all hr h1.2⟩
      · cases h
    · cases h
theorem closeV_cells {H : Heap} {all : Bool} {n : Nat} {L L' : List Site} {v v' : AV} (h : closeV H all n L v = some (v', L')) (h1 : allOneCell v.cells = true) : allOneCell v'.cells = true := by
  by_cases hag : ∃ cs, v = .agg cs
  · obtain ⟨cs, rfl⟩ := hag
    cases n with
    | zero => simp [closeV] at h
    | succ n =>
      unfold closeV at h
      cases hh : AV.hasRef (.agg cs) with
      | false => rw [hh] at h; cases h; exact h1
      | true =>
        rw [hh] at h
        simp only [cond_true] at h
        split at h
        · rename_i l L1 hl
          cases h
          exact closeVs_all hl h1
        · cases h
  · have hcl : v.cells = [v] := by cases v <;> first | rfl | exact absurd ⟨_, rfl⟩ hag
    rw [hcl] at h1
    simp only [allOneCell, Bool.and_true] at h1
    have := closeV_one h h1
    rw [isOneCell_cells this]
    simp [allOneCell, this]
theorem closeVs_each {H : Heap} {all : Bool} : ∀ {n : Nat} {L L' : List Site} {vs vs' : List AV}, closeVs H all n L vs = some (vs', L') → (∀ v ∈ vs, allOneCell v.cells = true) → ∀ u ∈ vs', allOneCell u.cells = true
  | 0, _, _, _, _, h, _ => by simp [closeVs] at h
  | n + 1, L, L', [], vs', h, _ => by
    simp only [closeVs, Option.some.injEq, Prod.mk.injEq] at h
    obtain ⟨rfl, _⟩ := h
    intro u hu; cases hu
  | n + 1, L, L', v :: r, vs', h, h1 => by
    unfold closeVs at h
    split at h
    · rename_i v' L1 hv
      split at h
      · rename_i r' L2 hr
        cases h
        intro u hu
        rcases List.mem_cons.1 hu with rfl | hu
        · exact closeV_cells hv (h1 v (List.mem_cons_self ..))
        · exact closeVs_each hr (fun w hw => h1 w (List.mem_cons_of_mem _ hw)) u hu
      · cases h
    · cases h

/-- The cells of values in a row, one behind the other. -/
theorem Rs.flat : ∀ {vs : List AV} {xs : List Value}, Rs Φ m vs xs → (∀ u ∈ vs, u ≠ .top) → Rs Φ m (vs.flatMap AV.cells) (xs.flatMap fun x => x.cells.toList)
  | [], xs, h, _ => by rw [h.inv_nil]; exact .nil
  | v :: r, xs, h, ht => by
    obtain ⟨x, ys, rfl, hx, hys⟩ := h.inv_cons
    simp only [List.flatMap_cons]
    exact (hx.cells (ht v (List.mem_cons_self ..))).append (Rs.flat hys fun u hu => ht u (List.mem_cons_of_mem _ hu))

theorem fill_run {e : Nat} : ∀ (l : List (Nat × Value)) (n : Nat) (arr : Array Value), l.map (·.1) = List.range' n l.length → (∀ p ∈ l, p.2.cells.size = e) → n * e + l.length * e ≤ arr.size →
    Instr.fill (fun i => some (i * e, e)) arr l = some (arr.toList.take (n * e) ++ l.flatMap (fun p => p.2.cells.toList) ++ arr.toList.drop (n * e + l.length * e)).toArray
  | [], n, arr, _, _, h => by simp [Instr.fill]
  | (i, v) :: r, n, arr, h1, h2, h3 => by
    simp only [List.map_cons, List.length_cons, List.range'_succ, List.cons.injEq] at h1
    obtain ⟨rfl, h1⟩ := h1
    have hv := h2 (i, v) (List.mem_cons_self ..)
    simp only [List.length_cons, Nat.add_mul] at h3
    rw [fill_one (off := i * e) (size := e) rfl hv (by omega)]
    rw [fill_run r (i + 1) _ h1 (fun p hp => h2 p (List.mem_cons_of_mem _ hp)) (by simp only [List.size_toArray, List.length_append, List.length_take, List.length_drop, Array.length_toList]; rw [hv, Nat.add_mul]; omega)]
    have hA : (arr.toList.take (i * e)).length = i * e := by rw [List.length_take, Array.length_toList]; omega
    have hC : v.cells.toList.length = e := by rw [Array.length_toList, hv]
    have hB : (arr.toList.take (i * e) ++ v.cells.toList).length = (i + 1) * e := by rw [List.length_append, hA, hC, Nat.add_mul]; omega
    congr 2
    rw [List.take_left' hB, List.drop_append, List.drop_eq_nil_of_le (by rw [hB]; omega), List.nil_append, hB, List.drop_drop, List.flatMap_cons]
    simp only [List.append_assoc, List.append_cancel_left_eq]
    congr 1
    simp only [List.length_cons, Nat.add_mul, Nat.one_mul]
    omega

theorem fl_aux : ∀ (l : List (Nat × Value)), l.flatMap (fun p => p.2.cells.toList) = (l.map (·.2)).flatMap fun x => x.cells.toList
  | [] => rfl
  | a :: l => by simp only [List.flatMap_cons, List.map_cons, fl_aux l]

theorem inOrder_ok : ∀ {l : List (Nat × AV)} {n : Nat} {xs : List AV}, inOrder n l = some xs → l.map (·.1) = List.range' n l.length ∧ l.map (·.2) = xs
  | [], n, xs, h => by simp only [inOrder, Option.some.injEq] at h; subst h; exact ⟨rfl, rfl⟩
  | (i, v) :: r, n, xs, h => by
    simp only [inOrder] at h
    cases hb : Nat.beq i n with
    | false => rw [hb] at h; cases h
    | true =>
      rw [hb] at h
      simp only [Nat.beq_eq] at hb
      subst hb
      simp only [cond_true] at h
      split at h
      · rename_i l' hl'
        cases h
        obtain ⟨h1, h2⟩ := inOrder_ok hl'
        exact ⟨by simp [List.range'_succ, h1], by simp [h2]⟩
      · cases h

theorem closeV_ne_top {H : Heap} {all : Bool} {n : Nat} {L L' : List Site} {v v' : AV} (h : closeV H all n L v = some (v', L')) : v' ≠ .top := by
  cases n with
  | zero => simp [closeV] at h
  | succ n =>
    unfold closeV at h
    cases hh : AV.hasRef v with
    | false =>
      rw [hh] at h
      simp only [cond_false, Option.some.injEq, Prod.mk.injEq] at h
      obtain ⟨rfl, _⟩ := h
      rintro rfl
      simp [AV.hasRef] at hh
    | true =>
      rw [hh] at h
      simp only [cond_true] at h
      split at h
      · split at h <;> cases h; simp
      · split at h <;> cases h; simp
      · split at h <;> cases h; simp
      · split at h
        · split at h <;> cases h; simp
        · cases h
      · cases h; simp
      · rename_i st i o
        cases hb : (!all && st.isInc) with
        | true => rw [hb] at h; cases h; simp
        | false =>
          rw [hb] at h
          simp only [cond_false] at h
          split at h
          · rename_i u wr hg
            cases hhu : AV.hasRef u with
            | false => rw [hhu] at h; cases h; simp
            | true =>
              rw [hhu] at h
              simp only [cond_true] at h
              split at h
              · split at h <;> cases h; simp
              · split at h
                · rename_i u' L1 hu
                  cases hone : isOneCell u' with
                  | false => rw [hone] at h; cases h
                  | true => rw [hone] at h; cases h; simp
                · cases h
          · cases h
      · rename_i st lo len
        cases hb : (!all && st.isInc) with
        | true => rw [hb] at h; cases h; simp
        | false =>
          rw [hb] at h
          simp only [cond_false] at h
          split at h
          · split at h <;> cases h; simp
          · cases h
      · cases h
theorem closeVs_ne_top {H : Heap} {all : Bool} : ∀ {n : Nat} {L L' : List Site} {vs vs' : List AV}, closeVs H all n L vs = some (vs', L') → ∀ u ∈ vs', u ≠ .top
  | 0, _, _, _, _, h => by simp [closeVs] at h
  | n + 1, L, L', [], vs', h => by
    simp only [closeVs, Option.some.injEq, Prod.mk.injEq] at h
    obtain ⟨rfl, _⟩ := h
    intro u hu; cases hu
  | n + 1, L, L', v :: r, vs', h => by
    simp only [closeVs] at h
    split at h
    · rename_i v1 L1 hv
      split at h
      · rename_i r1 L2 hr1
        cases h
        intro u hu
        rcases List.mem_cons.1 hu with rfl | hu
        · exact closeV_ne_top hv
        · exact closeVs_ne_top hr1 u hu
      · cases h
    · cases h
/-- What is alike in memory is of as many cells. -/
theorem Rs.cellsLen {μ : LMap} {vs us : List AV} {xs : List Value} {e : Nat} (h : Rs Φ m vs xs) (h' : Rs Φ' μ us xs) (he : ∀ v ∈ vs, v.cells.length = e ∧ v ≠ .top) (ht : ∀ u ∈ us, u ≠ .top) : ∀ u ∈ us, u.cells.length = e := by
  intro u hu
  obtain ⟨j, hj⟩ := List.getElem?_of_mem hu
  obtain ⟨x, hx, hr⟩ := h'.2 j u hj
  have hj' : j < vs.length := by rw [h.1]; exact (List.getElem?_eq_some_iff.1 hx).1
  have hv : vs[j]? = some vs[j] := by simp [hj']
  have hrv := h.at hv hx
  obtain ⟨h1, h2⟩ := he _ (List.getElem_mem hj')
  have a := (hr.cells (ht u hu)).1
  have b := (hrv.cells h2).1
  omega

theorem buildSlice_run {t e : TypeId} {ie : TypeInfo} {zv : Value} {cs : Array Value} {len : Nat} {parts : Array (Nat × Value)} (hu : P.underlying t = some (.slice e)) (hie : P.info? e = some ie)
    (hz : (zeroValue e).run P w = .ok zv w) (h24 : ¬ len * ie.size > 2 ^ 24) (hf : Instr.fill (fun i => some (i * ie.size, ie.size)) ((Array.range (len * ie.size)).map (zv.cells[· % zv.cells.size]!)) parts.toList = some cs) :
    (Instr.buildSlice t len parts).run P w = .ok (.slice (some ⟨w.heap.size, 0, none⟩) len len) (w.alloc (.cells cs e)) := by
  unfold Instr.buildSlice
  simp only [Sem.run_bind, run_under hu, Result.andThen_ok, run_size hie, h24, if_false]
  by_cases h0 : len * ie.size = 0
  · simp only [h0, if_true]
    have : Instr.fill (fun i => some (i * ie.size, ie.size)) ((Array.range 0).map ((#[] : Array Value)[· % (#[] : Array Value).size]!)) parts.toList = some cs := by
      have hr0 : Array.range 0 = #[] := by simp
      rw [← hf, h0, hr0, Array.map_empty, Array.map_empty]
    simp only [Sem.run_bind, Sem.run_pure, Result.andThen_ok, this, newRow, run_newObj, World.alloc_eq]
  · simp only [h0, if_false, Sem.run_bind, hz, Sem.run_pure, Result.andThen_ok, hf, newRow, run_newObj, World.alloc_eq]

theorem op_buildSlice (hP : TabOK P tab) (hX : X.cfg.tab = tab) {t : TypeId} {len : Nat} {ps : Array (Nat × Operand)} (hop : o.op = .buildSlice t len ps) (h : SatN X fid n (opR X.cfg draw s o k) Q) (hT : RT Φ m s.T a.tmps)
    (hI : Inv Φ m w s.H) (hG : Glob Φg Φ₀ i₀ w₀ Φ m w) : o.wp P a w (After P Φg X fid n k Q Φ₀ i₀ w₀ o s a w Φ m) Qx := by
  unfold opR at h
  rw [hop] at h
  dsimp only at h
  split at h
  · rename_i sz_ ag_ e_ fl_ ze_ by_ cm_ l hti hl
    obtain ⟨ii, d, hii, hsz, _, hu, hsh, hag, _⟩ := hP.get (hX ▸ hti)
    have hd := shOk_slice hsh rfl
    subst hd
    obtain ⟨hl1, hl2⟩ := parts_ok (a := a) hT hl
    split at h
    · rename_i te hte
      obtain ⟨ie, de, hie, hsze, _⟩ := hP.get (hX ▸ hte)
      split at h
      · rename_i xs hxs
        obtain ⟨ho1, rfl⟩ := inOrder_ok hxs
        cases hb : (Nat.beq (l.map (·.2)).length len && Nat.blt 0 te.sz && allCells te.sz (l.map (·.2)) && Nat.ble (len * te.sz) 16777216 && te.zero.isSome) with
        | false => rw [hb] at h; exact h.no_fail.elim
        | true =>
          rw [hb] at h
          simp only [cond_true] at h
          simp only [Bool.and_eq_true, Nat.beq_eq] at hb
          obtain ⟨⟨⟨⟨hb1, hb2⟩, hb3⟩, hb4⟩, hb5⟩ := hb
          have hb2 : 0 < te.sz := by simpa using hb2
          have hb4 := Nat.le_of_ble_eq_true hb4
          obtain ⟨z, hz⟩ := Option.isSome_iff_exists.1 hb5
          obtain ⟨zv, hz1, hz2⟩ := zero_ok hP hX hte hz
          split at h
          · rename_i xs' L hcl
            rw [spine_eq] at h
            split at h
            · rename_i dst hdst
              obtain ⟨hs, h⟩ := h.noSite_inv
              -- the machine's values
              let vs : List (Nat × Value) := ps.toList.map fun p => (p.1, a.eval p.2)
              have hvs : Rs Φ m (l.map (·.2)) (vs.map (·.2)) := hl2
              have hmap : (ps.map fun x => match x with | (i, x) => (i, a.eval x)).toList = vs := by simp [vs]
              have hall := allCells_ok hb3
              have hvl : vs.length = len := by have := hvs.1; simp at this; rw [← hb1]; simpa [vs] using this.symm
              have hvc : ∀ p ∈ vs, p.2.cells.size = te.sz := by
                intro p hp
                obtain ⟨j, hj⟩ := List.getElem?_of_mem (List.mem_map_of_mem (f := (·.2)) hp)
                have hj' : j < (l.map (·.2)).length := by rw [hvs.1]; exact (List.getElem?_eq_some_iff.1 hj).1
                have hv : (l.map (·.2))[j]? = some (l.map (·.2))[j] := by rw [List.getElem?_eq_getElem hj']
                have hr := hvs.at hv hj
                obtain ⟨h1, h2⟩ := hall _ (List.getElem_mem hj')
                have := (hr.cells (allOne_ne_top h2)).1
                rw [h1] at this; simpa using this.symm
              let arr : Array Value := (Array.range (len * te.sz)).map (zv.cells[· % zv.cells.size]!)
              have harr : arr.size = len * te.sz := by simp [arr]
              have hfill := fill_run vs 0 arr (by
                have : vs.map (·.1) = l.map (·.1) := hl1.symm
                rw [this, ho1, hvl, ← hb1, List.length_map]) hvc (by rw [harr, hvl]; omega)
              have hfl : (vs.flatMap fun p => p.2.cells.toList) = (vs.map (·.2)).flatMap fun x => x.cells.toList := fl_aux vs
              let cs : Array Value := (arr.toList.take (0 * te.sz) ++ vs.flatMap (fun p => p.2.cells.toList) ++ arr.toList.drop (0 * te.sz + vs.length * te.sz)).toArray
              obtain ⟨_, hclr⟩ := closeVs_ok hI hcl hvs
              have hclr := hclr (μ := m0) (L'' := L) (fun h => by cases h) (fun s hs => hs)
              have hnt := closeVs_ne_top hcl
              have hcells : ∀ u ∈ xs', u.cells.length = te.sz := hvs.cellsLen hclr (fun v hv => ⟨(hall v hv).1, allOne_ne_top (hall v hv).2⟩) hnt
              have hxl : xs'.length = len := by rw [hclr.1, List.length_map, hvl]
              have hcs : cs.toList = (vs.map (·.2)).flatMap fun x => x.cells.toList := by
                simp only [cs, Nat.zero_mul, List.take_zero, List.nil_append, Nat.zero_add]
                rw [List.drop_eq_nil_of_le (by rw [Array.length_toList, harr, hvl]; exact Nat.le_refl _), List.append_nil, hfl]
              have hflat := hclr.flat hnt
              have hcsz : cs.size = len * te.sz := by
                have := hflat.1
                rw [flat_len hcells, hxl, ← hcs, Array.length_toList] at this; exact this.symm
              refine frz_alloc_ok (L := L) (e := te.sz) (z := (cs.size, xs'.length)) (ob := .cells cs e_) (x := .slice (some ⟨w.heap.size, 0, none⟩) len len) ?_ hs hI hG (row_new hb2 hcells (closeVs_each hcl fun v hv => (hall v hv).2) ?_ ?_) ?_ h
              · have hcs' : Instr.fill (fun i => some (i * ie.size, ie.size)) ((Array.range (len * ie.size)).map (zv.cells[· % zv.cells.size]!)) (ps.map fun x => match x with | (i, x) => (i, a.eval x)).toList = some cs := by
                  rw [hmap, hsze]; exact hfill
                have := buildSlice_run (len := len) (parts := ps.map fun x => match x with | (i, x) => (i, a.eval x)) hu hie (hz1 w) (by rw [hsze]; omega) hcs'
                simp only [execOp, hop, Sem.run_bind, this, Result.andThen_ok, Sem.run_pure]
              · rw [hxl]
                have : cs.toList.take (len * te.sz) = cs.toList := List.take_of_length_le (by rw [Array.length_toList, hcsz]; exact Nat.le_refl _)
                rw [this, hcs]
                exact hflat
              · intro oo
                have hn := hI.phi_new oo
                have hI' := hI.frz L
                exact hI'.phi_new oo
              · rw [hxl]
                exact sref_new (by rw [hcsz]; exact Nat.le_refl _)
            · exact h.no_fail.elim
          · exact h.no_fail.elim
      · exact h.no_fail.elim
    · exact h.no_fail.elim
  · exact h.no_fail.elim
end
end Go.Ab
