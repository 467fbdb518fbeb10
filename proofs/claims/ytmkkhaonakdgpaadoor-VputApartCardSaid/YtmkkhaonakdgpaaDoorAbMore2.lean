/- Elements looked at; conversions; made slices. -/
import Derived.Test.YtmkkhaonakdgpaaDoorAbMore
import Derived.Laws.BytesArg
namespace Go.Ab
open Go
section
variable {Φg : Phi} {α : Type} {X : Ctx} {fid : FuncId} {P : Program} {n : Nat} {draw : Bool} {s : St} {o : Oper} {k : Script → DT α} {Q : α → Prop} {a : Act} {w w' w₀ : World}
  {Φ Φ' Φ₀ : Phi} {m m' i₀ : LMap} {Qx : Exit → Act → World → Prop} {H : Heap} {tab : Tab}

/-- The elements of a slice, as they lie. -/
structure Viewed (Φ : Phi) (m : LMap) (w : World) (sz : Nat) (xs : List AV) (rd : Acc) (b : Option Addr) (C : Phi) : Prop where
  keep : ∀ w1, KeepOn Φ m rd w w1 → ∀ bl oo y, C bl oo = some y → w1.cell? ⟨bl, oo, none⟩ = some y
  each : ∀ v ∈ xs, v.cells.length = sz ∧ allOneCell v.cells = true
  lies : xs = [] ∨ ∃ bl off, b = some ⟨bl, off, none⟩ ∧ ∀ (i : Nat) (v : AV) (j : Nat) (c : AV), xs[i]? = some v → v.cells[j]? = some c → ∃ y, C bl (off + i * sz + j) = some y ∧ R Φ m0 c y

theorem viewD_ok {sz : Nat} {x : AV} {xv : Value} {q : List AV → Acc → DT α} (h : SatN X fid n (viewD s sz x q) Q) (hr : R Φ m x xv) (hI : Inv Φ m w s.H) (hns : ∀ b, x ≠ .str b) :
    ∃ xs rd b cap C, SatN X fid n (q xs rd) Q ∧ xv = .slice b xs.length cap ∧ xs.length ≤ cap ∧ Viewed Φ m w sz xs rd b C := by
  unfold viewD at h
  split at h
  · rename_i xs
    cases h with
    | esz hall h =>
      cases hr with
      | tree0 =>
        rename_i a0 cap
        exact ⟨[], [], a0, cap, Φ, h, rfl, Nat.zero_le _, ⟨fun w1 hk bl oo y hy => hk.1 _ _ _ hy, fun v hv => (by cases hv), .inl rfl⟩⟩
      | tree esz f h1 h2 h3 h4 h5 =>
        rename_i b off cap
        refine ⟨xs, [], _, cap, Φ, h, rfl, h1, ⟨fun w1 hk bl oo y hy => hk.1 _ _ _ hy, fun v hv => ⟨hall v hv, by obtain ⟨i, hi⟩ := List.getElem?_of_mem hv; exact h5 i v hi⟩, .inr ⟨b, off, rfl, fun i v j c hi hj => ⟨f i j, ?_, h4 i v j c hi hj⟩⟩⟩⟩
        have : sz = esz := by rw [← h2 i v hi, hall v (List.mem_of_getElem? hi)]
        rw [this]
        exact h3 i v j c hi hj
  · cases hr with
    | nils =>
      rename_i a0
      exact ⟨[], [], a0, 0, Φ, h, rfl, Nat.le_refl _, ⟨fun w1 hk bl oo y hy => hk.1 _ _ _ hy, fun v hv => (by cases hv), .inl rfl⟩⟩
  · rename_i st lo len
    split at h
    · rename_i e xs wr rm hg
      cases hb : (Nat.beq e sz || Nat.beq e 0) with
      | false => rw [hb] at h; exact h.no_fail.elim
      | true =>
        rw [hb] at h
        simp only [cond_true] at h
        have h : SatN X fid n (q ((xs.drop lo).take len) [(st, none)]) Q := by
          split at h
          · simpa using h
          · exact h
        cases hr with
        | sref0 =>
          rw [List.take_zero] at h
          exact ⟨[], _, _, 0, Φ, h, rfl, Nat.le_refl _, ⟨fun w1 hk bl oo y hy => hk.1 _ _ _ hy, fun v hv => (by cases hv), .inl rfl⟩⟩
        | sref hm g1 g2 g3 =>
          rename_i cap b esz z
          rcases hI.blk _ _ hg with ⟨hn, _⟩ | ⟨b', size', hrow⟩
          · rw [hm] at hn; cases hn
          · have hl := hrow.loc
            rw [hm] at hl
            cases hl
            have he : e = sz := by
              simp only [Bool.or_eq_true, Nat.beq_eq] at hb
              rcases hb with hb | hb
              · exact hb
              · have := hrow.pos; omega
            subst he
            have hlen : ((xs.drop lo).take len).length = len := by simp at g3 ⊢; omega
            have hget : ∀ {i v}, ((xs.drop lo).take len)[i]? = some v → xs[lo + i]? = some v := fun {i v} hi => by
              rw [List.getElem?_take] at hi
              split at hi
              · rwa [List.getElem?_drop] at hi
              · cases hi
            refine ⟨_, _, some ⟨b, lo * e, none⟩, cap, fun bl oo => if bl = b then w.cell? ⟨b, oo, none⟩ else none, h, by rw [hlen], by rw [hlen]; exact g1, ⟨fun w1 hk bl oo y hy => ?_, fun v hv => ?_, .inr ⟨b, lo * e, rfl, fun i v j c hi hj => ?_⟩⟩⟩
            · split at hy
              · rename_i hbl
                subst hbl
                rw [hk.2 st _ (List.mem_cons_self ..) _ _ _ hm oo]
                exact hy
              · cases hy
            · obtain ⟨i, hi⟩ := List.getElem?_of_mem hv
              exact ⟨hrow.each _ _ (hget hi), hrow.one _ _ (hget hi)⟩
            · obtain ⟨y, hy, hyr⟩ := hrow.cell _ _ _ _ (hget hi) hj
              exact ⟨y, by rw [if_pos rfl, ← Nat.add_mul]; exact hy, hyr⟩
    · exact h.no_fail.elim
  · rename_i b; exact absurd rfl (hns b)
  · exact h.no_fail.elim

theorem kindOf_ok (hP : TabOK P tab) {cfg : Cfg} (hc : cfg.tab = tab) {t : TypeId} {kd : IntKind} (h : kindOf cfg t = some kd) : P.underlying t = some (.int kd) := by
  unfold kindOf at h
  split at h
  · rename_i hti
    cases h
    obtain ⟨ii, d, hii, hsz, _, hu, hsh, _⟩ := hP.get (hc ▸ hti)
    have hd : d = .int kd := hsh
    rw [hu, hd]
  · cases h

theorem op_convert (hP : TabOK P tab) (hX : X.cfg.tab = tab) {src d : TypeId} {y : Operand} (hop : o.op = .convert src d y) (h : SatN X fid n (opR X.cfg draw s o k) Q) (hT : RT Φ m s.T a.tmps)
    (hI : Inv Φ m w s.H) (hG : Glob Φg Φ₀ i₀ w₀ Φ m w) : o.wp P a w (After P Φg X fid n k Q Φ₀ i₀ w₀ o s a w Φ m) Qx := by
  unfold opR at h
  rw [hop] at h
  dsimp only at h
  split at h
  · rename_i v hv
    have hr := opnd_eval hT hv
    generalize hey : a.eval y = ey at hr
    unfold convertD at h
    split at h
    · exact h.no_fail.elim
    · rename_i ts hts
      obtain ⟨is, ds, his, hsz, _, hus, hshs, _⟩ := hP.get (hX ▸ hts)
      split at h
      · rename_i kd i
        cases hr
        split at h
        · rename_i kd' hkd
          have hud := kindOf_ok hP hX hkd
          refine pure_ok (x := .int kd' (kd'.wrap i)) ?_ (.int _ _) h hI hG
          intro w1 _
          simp only [execOp, hop, hey, Sem.run_bind, convert, run_under hus, run_under hud, Result.andThen_ok, Conv.intToInt, Sem.run_pure]
        · exact h.no_fail.elim
      · rename_i bs
        cases hr with
        | str hs =>
          rename_i x
          split at h
          · rename_i hd
            have hd := shOk_string hshs hd
            subst hd
            split at h
            · rename_i sz_ ag_ fl_ ze_ by_ cm_ htd
              obtain ⟨id, dd, hid, hszd, _, hud, hshd, _⟩ := hP.get (hX ▸ htd)
              have hdd := shOk_string hshd rfl
              subst hdd
              refine pure_ok (x := .string x) ?_ (.str hs) h hI hG
              intro w1 _
              simp only [execOp, hop, hey, Sem.run_bind, convert, run_under hus, run_under hud, Result.andThen_ok, Sem.run_pure]
            · rename_i sz_ ag_ e fl_ ze_ by_ cm_ htd
              obtain ⟨id, dd, hid, hszd, _, hud, hshd, _⟩ := hP.get (hX ▸ htd)
              have hdd := shOk_slice hshd rfl
              subst hdd
              cases hk : decide (kindOf X.cfg e = some .u8) with
              | false => rw [hk] at h; exact h.no_fail.elim
              | true =>
                rw [hk] at h
                have hue := kindOf_ok hP hX (of_decide_eq_true hk)
                simp only [cond_true] at h
                split at h
                · rename_i dst hdst
                  obtain ⟨hs0, h⟩ := h.noSite_inv
                  have hrun := run_bytes_of_string (P := P) w src d e x hus hud hue
                  generalize hcap : grownCap w x.size 0 e = cap at hrun
                  have hcapge : x.size ≤ cap := by have := grownCap_ge w x.size 0 e; omega
                  have hrs : (bytesRow x cap).size = cap := by simp [bytesRow]; omega
                  have hlen : bs.length = x.size := by rw [← hs, Array.length_toList]; rfl
                  have hgetb : ∀ (j : Nat) (c : UInt8), bs[j]? = some c → (bytesRow x cap)[j]? = some (Value.int .u8 c.toNat) := fun j c hj => by
                    have hjl : j < x.data.size := by have := (List.getElem?_eq_some_iff.1 hj).1; rw [hlen] at this; exact this
                    unfold bytesRow
                    rw [Array.getElem?_append_left (by simpa using hjl), Array.getElem?_map]
                    have : x.data[j]? = some c := by rw [← hs] at hj; simpa using hj
                    rw [this]; rfl
                  refine allocd_ok (e := 1) (z := (cap, bs.length)) (ob := .cells (bytesRow x cap) e ((bytesRow x cap).size, (bytesRow x cap).size + 1)) (x := .slice (some ⟨w.heap.size, 0, none⟩) x.size cap) (w.drawn + 1) ?_ hs0 ?_ ?_ h hI hG
                  · simp only [execOp, hop, hey, Sem.run_bind, hrun, Result.andThen_ok, Sem.run_pure]
                    rfl
                  · refine .inr ⟨w.heap.size, cap, ⟨by rw [upd_same]; simp, Nat.one_pos, by simp; omega, ⟨e, ?_⟩, ?_, ?_, ?_, fun _ o => hI.phi_new o, fun o ho => absurd (hI.phi_new o) ho, fun i v hv => ?_⟩⟩
                    · unfold World.shape?
                      have := heap_alloc_new ({ w with drawn := w.drawn + 1 } : World) (.cells (bytesRow x cap) e ((bytesRow x cap).size, (bytesRow x cap).size + 1))
                      rw [this]
                      show some (e, (bytesRow x cap).size) = _
                      rw [hrs]
                    · intro i v hv
                      rw [List.getElem?_map] at hv
                      cases hb : bs[i]? with
                      | none => rw [hb] at hv; cases hv
                      | some c => rw [hb] at hv; cases hv; rfl
                    · intro i v j c hv hj
                      rw [List.getElem?_map] at hv
                      cases hb : bs[i]? with
                      | none => rw [hb] at hv; cases hv
                      | some c' =>
                        rw [hb] at hv
                        cases hv
                        cases j with
                        | succ j => simp [AV.cells] at hj
                        | zero =>
                          simp [AV.cells] at hj
                          subst hj
                          refine ⟨Value.int .u8 c'.toNat, ?_, .int _ _⟩
                          have := heap_alloc_new ({ w with drawn := w.drawn + 1 } : World) (.cells (bytesRow x cap) e ((bytesRow x cap).size, (bytesRow x cap).size + 1))
                          simp only [World.cell?, this, Nat.mul_one, Nat.add_zero]
                          simpa using hgetb i c' hb
                    · intro o ho
                      have := heap_alloc_new ({ w with drawn := w.drawn + 1 } : World) (.cells (bytesRow x cap) e ((bytesRow x cap).size, (bytesRow x cap).size + 1))
                      simp only [World.frozen?, this]
                      show (decide ((bytesRow x cap).size ≤ o) && _) = false
                      rw [hrs, decide_eq_false (by omega)]
                      rfl
                    · rw [List.getElem?_map] at hv
                      cases hb : bs[i]? with
                      | none => rw [hb] at hv; cases hv
                      | some c => rw [hb] at hv; cases hv; rfl
                  · have := R.sref (Φ := Φ) (m := upd m (.tmp dst) (.at w.heap.size 1 (cap, bs.length))) (s := .tmp dst) (lo := 0) (len := bs.length) (cap := cap) (upd_same _ _ _) (by omega) (by simp) (by simp)
                    rw [← hlen]
                    simpa using this
                · exact h.no_fail.elim
            · exact h.no_fail.elim
          · exact h.no_fail.elim
      · rename_i hni hns
        split at h
        · rename_i e hd
          have hd := shOk_slice hshs hd
          subst hd
          cases hk : decide (kindOf X.cfg e = some .u8) with
          | false => rw [hk] at h; exact h.no_fail.elim
          | true =>
            rw [hk] at h
            have hue := kindOf_ok hP hX (of_decide_eq_true hk)
            simp only [cond_true] at h
            split at h
            · rename_i sz_ ag_ fl_ ze_ by_ cm_ htd
              obtain ⟨id, dd, hid, hszd, _, hud, hshd, _⟩ := hP.get (hX ▸ htd)
              have hdd := shOk_string hshd rfl
              subst hdd
              obtain ⟨xs, rd, b, cap, C, h, rfl, hcap, hvw⟩ := viewD_ok h hr hI (fun b e => hns b e)
              cases h with
              | bytes hbs h =>
                rename_i bs
                (try dsimp only at h)
                have hlen : xs.length = bs.length := by rw [hbs, List.length_map]
                refine pure_ok (x := .string ⟨bs.toArray⟩) (rd := rd) ?_ (.str rfl) h hI hG
                intro w1 hk
                have fin : (convert src d (.slice b xs.length cap)).run P w1 = .ok (.string ⟨bs.toArray⟩) w1 := by
                  rcases hvw.lies with hnil | ⟨bl, off, rfl, hl⟩
                  · have hb0 : bs = [] := by rw [hnil] at hlen; exact List.eq_nil_of_length_eq_zero hlen.symm
                    subst hb0
                    cases b with
                    | none => rw [run_convert_bytes_nil w1 src e hus hue _ _ d hud]; rfl
                    | some ad =>
                      rw [hlen]
                      exact run_convert_bytes_back w1 src d e ad cap [] hus hue hud (fun j hj => absurd hj (Nat.not_lt_zero _))
                  · rw [hlen]
                    refine run_convert_bytes_back w1 src d e _ cap bs hus hue hud fun j hj => ?_
                    have hxj : xs[j]? = some (.int .u8 bs[j].toNat) := by rw [hbs, List.getElem?_map, List.getElem?_eq_getElem hj]; rfl
                    obtain ⟨y, hy, hyr⟩ := hl j _ 0 _ hxj rfl
                    cases hyr
                    rw [addr_add]
                    have := hvw.keep w1 hk _ _ _ hy
                    simpa using this
                simp only [execOp, hop, hey, Sem.run_bind, fin, Result.andThen_ok, Sem.run_pure]
            · exact h.no_fail.elim
        · exact h.no_fail.elim
  · exact h.no_fail.elim

theorem op_makeSlice (hP : TabOK P tab) (hX : X.cfg.tab = tab) {t : TypeId} {l c : Operand} (hop : o.op = .makeSlice t l c) (h : SatN X fid n (opR X.cfg draw s o k) Q) (hT : RT Φ m s.T a.tmps)
    (hI : Inv Φ m w s.H) (hG : Glob Φg Φ₀ i₀ w₀ Φ m w) : o.wp P a w (After P Φg X fid n k Q Φ₀ i₀ w₀ o s a w Φ m) Qx := by
  unfold opR at h
  rw [hop] at h
  dsimp only at h
  split at h
  · rename_i sz_ ag_ e fl_ ze_ by_ cm_ kl i kc j hti hl hc
    obtain ⟨ii, d, hii, hsz, _, hu, hsh, _⟩ := hP.get (hX ▸ hti)
    have hd := shOk_slice hsh rfl
    subst hd
    have hrl := opnd_eval hT hl
    have hrc := opnd_eval hT hc
    generalize hel : a.eval l = el at hrl
    generalize hec : a.eval c = ec at hrc
    cases hrl
    cases hrc
    split at h
    · rename_i te hte
      obtain ⟨ie, de, hie, hsze, hbye, _, _, _, hze, _⟩ := hP.get (hX ▸ hte)
      split at h
      · rename_i z hz
        obtain ⟨zv, hz1, hz2⟩ := hze z hz
        cases hb : (Nat.blt 0 te.sz && Nat.beq z.cells.length te.sz && allOneCell z.cells) with
        | false => rw [hb] at h; exact h.no_fail.elim
        | true =>
          rw [hb] at h
          simp only [Bool.not_true, cond_false] at h
          simp only [Bool.and_eq_true, Nat.beq_eq] at hb
          obtain ⟨⟨hpos, hzl⟩, hzone⟩ := hb
          have hpos : 0 < te.sz := by simpa using hpos
          obtain ⟨hcond, hs1⟩ := h.node_inv
          clear h
          obtain ⟨h0, h1, h2, h3⟩ := of_decide_eq_true hcond
          simp only [roomMost] at h2 h3
          unfold allocD at hs1
          split at hs1
          · rename_i dst hdst
            obtain ⟨hs0, hs2⟩ := hs1.noSite_inv
            clear hs1
            obtain ⟨cn, rfl⟩ := Int.eq_ofNat_of_zero_le (by omega : 0 ≤ j)
            obtain ⟨ln, rfl⟩ := Int.eq_ofNat_of_zero_le h0
            have hb' : (ie.bytes : Int) * (cn : Int) ≤ 281474976710656 := by
              rw [hbye, Int.mul_comm]; omega
            have hrun := run_make (P := P) w t e ie zv hu hie hz1 kl kc ln cn (by omega) (by omega) hb' (by omega)
            have hzc : Rs Φ m0 z.cells zv.cells.toList := (R.value hz2).cells (fun e => ofValue_ne_top (e ▸ hz2))
            have hzsz : zv.cells.size = te.sz := by have := hzc.1; rw [hzl] at this; simpa using this.symm
            have hmc : (madeCells zv.cells (cn * ie.size)).size = cn * te.sz := by rw [size_madeCells, hsze]
            simp only [Int.toNat_natCast] at hrun hs2
            refine alloc_ok (e := te.sz) (z := (cn * te.sz, ln)) (ob := .cells (madeCells zv.cells (cn * ie.size)) e) (x := .slice (some ⟨w.heap.size, 0, none⟩) ln cn) ?_ hs0 ?_ ?_ hs2 hI hG
            · simp only [execOp, hop, hel, hec, Sem.run_bind, hrun, Result.andThen_ok, Sem.run_pure]
            · have hle : ln * te.sz ≤ cn * te.sz := Nat.mul_le_mul_right _ (by omega)
              refine .inr ⟨w.heap.size, cn * te.sz, ⟨by rw [upd_same]; simp, hpos, by simpa using hle, ⟨e, by rw [shape_new, hmc]⟩, fun i v hv => ?_, fun i v jj cc hv hcc => ?_, fun o _ => World.frozen?_alloc_new _ _ _ _, fun _ o => hI.phi_new o, fun o ho => absurd (hI.phi_new o) ho, fun i v hv => ?_⟩⟩
              · rw [List.getElem?_replicate] at hv
                split at hv <;> cases hv
                exact hzl
              · rw [List.getElem?_replicate] at hv
                split at hv <;> cases hv
                rename_i hil
                have hjz : jj < te.sz := by rw [← hzl]; exact (List.getElem?_eq_some_iff.1 hcc).1
                obtain ⟨x, hx, hxr⟩ := hzc.2 jj cc hcc
                refine ⟨x, ?_, hxr⟩
                rw [World.cell?_alloc_new]
                have hlt : i * te.sz + jj < cn * te.sz := by
                  have : (i + 1) * te.sz ≤ cn * te.sz := Nat.mul_le_mul_right _ (by omega)
                  rw [Nat.add_mul] at this; omega
                simp only [madeCells, Array.getElem?_map, hsze]
                rw [Array.getElem?_range, if_pos hlt]
                simp only [Option.map_some]
                rw [hzsz, Nat.mul_comm i, Nat.mul_add_mod, Nat.mod_eq_of_lt hjz]
                have hx' : zv.cells[jj]? = some x := by simpa using hx
                rw [getElem!_def, hx']
              · rw [List.getElem?_replicate] at hv
                split at hv <;> cases hv
                exact hzone
            · have := R.sref (Φ := Φ) (m := upd m (.tmp dst) (.at w.heap.size te.sz (cn * te.sz, ln))) (s := .tmp dst) (lo := 0) (len := ln) (cap := cn) (upd_same _ _ _) (by omega) (by simp) (by simp)
              simpa using this
          · exact hs1.no_fail.elim
      · exact h.no_fail.elim
    · exact h.no_fail.elim
  · exact h.no_fail.elim
end
end Go.Ab
