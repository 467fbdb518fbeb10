/- Operations that only reckon: fields, elements, pieces of slices and texts. -/
import Derived.Test.YtmkkhaonakdgpaaDoorAbOps2
namespace Go.Ab
open Go
section
variable {Φg : Phi} {α : Type} {X : Ctx} {fid : FuncId} {P : Program} {n : Nat} {draw : Bool} {s : St} {o : Oper} {k : Script → DT α} {Q : α → Prop} {a : Act} {w w₀ : World}
  {Φ Φ₀ : Phi} {m i₀ : LMap} {Qx : Exit → Act → World → Prop} {tab : Tab}

theorem Rs.drop {vs : List AV} {xs : List Value} (h : Rs Φ m vs xs) (o : Nat) : Rs Φ m (vs.drop o) (xs.drop o) :=
  Rs.mk' (by simp [h.1]) fun j v x hv hx => by rw [List.getElem?_drop] at hv hx; exact h.at hv hx
theorem Rs.take {vs : List AV} {xs : List Value} (h : Rs Φ m vs xs) (o : Nat) : Rs Φ m (vs.take o) (xs.take o) :=
  Rs.mk' (by simp [h.1]) fun j v x hv hx => by
    rw [List.getElem?_take] at hv hx
    split at hv
    · rename_i hj; rw [if_pos hj] at hx; exact h.at hv hx
    · cases hv

/-- A part of a value. -/
theorem partV_ok (hP : TabOK P tab) {cfg : Cfg} (hc : cfg.tab = tab) {t : TypeId} {cs : List AV} {ys : Array Value} {off : Nat} {q : AV → DT α} (h : SatN X fid n (partD cfg t (.agg cs) off q) Q) (hl : Rs Φ m cs ys.toList) :
    ∃ v' x', SatN X fid n (q v') Q ∧ R Φ m v' x' ∧ ∀ w : World, (part t ys off).run P w = .ok x' w := by
  unfold partD at h
  split at h
  · rename_i ti hti
    obtain ⟨i, d, hi, hsz, _, hu, hsh, hag, _⟩ := hP.get (hc ▸ hti)
    have hlen : cs.length = ys.size := by simpa using hl.1
    cases hagg : ti.agg with
    | true =>
      rw [hagg] at h
      simp only [cond_true] at h
      have key : ∀ w : World, (part t ys off).run P w = .ok (.agg (ys.extract off (off + ti.sz))) w := by
        intro w
        unfold part
        rw [Sem.run_bind, run_agg hu (by rw [← hag, hagg]) w, Result.andThen_ok]
        simp [run_size hi, hsz]
      cases hb : (Nat.beq off 0 && Nat.beq ti.sz (AV.agg cs).cells.length) with
      | true =>
        rw [hb] at h
        simp only [cond_true] at h
        simp only [Bool.and_eq_true, Nat.beq_eq] at hb
        obtain ⟨rfl, hz⟩ := hb
        refine ⟨_, _, h, ?_, key⟩
        rw [Nat.zero_add, hz]
        simp only [AV.cells]
        rw [hlen, Array.extract_size]
        exact .aggs hl
      | false =>
        rw [hb] at h
        simp only [cond_false] at h
        cases hb2 : Nat.ble (off + ti.sz) (AV.agg cs).cells.length with
        | true =>
          rw [hb2] at h
          simp only [cond_true, spine_eq] at h
          refine ⟨_, _, h, ?_, key⟩
          refine .aggs ?_
          simp only [AV.cells, Array.toList_extract]
          rw [List.extract_eq_take_drop, Nat.add_sub_cancel_left]
          exact (hl.drop off).take ti.sz
        | false => rw [hb2] at h; exact h.no_fail.elim
    | false =>
      rw [hagg] at h
      simp only [cond_false] at h
      split at h
      · rename_i c r hcr
        cases hone : isOneCell c with
        | false => rw [hone] at h; exact h.no_fail.elim
        | true =>
        rw [hone] at h
        have hc0 : cs[off]? = some c := by
          have : (cs.drop off)[0]? = some c := by simp only [AV.cells] at hcr; rw [hcr]; rfl
          rwa [List.getElem?_drop] at this
        obtain ⟨x, hx, hr⟩ := hl.2 off c hc0
        have hx' : ys[off]? = some x := by simpa using hx
        refine ⟨c, x, h, hr, fun w => ?_⟩
        unfold part
        rw [Sem.run_bind, run_agg hu (by rw [← hag, hagg]) w, Result.andThen_ok]
        simp [hx']
      · exact h.no_fail.elim
  · exact h.no_fail.elim

theorem op_field (hP : TabOK P tab) (hX : X.cfg.tab = tab) {t : TypeId} {y : Operand} {f : Nat} (hop : o.op = .field t y f) (h : SatN X fid n (opR X.cfg draw s o k) Q) (hT : RT Φ m s.T a.tmps)
    (hI : Inv Φ m w s.H) (hG : Glob Φg Φ₀ i₀ w₀ Φ m w) : o.wp P a w (After P Φg X fid n k Q Φ₀ i₀ w₀ o s a w Φ m) Qx := by
  unfold opR at h
  rw [hop] at h
  dsimp only at h
  split at h
  · rename_i ti hti
    cases hst : ti.desc with
    | struct =>
      rw [hst] at h
      dsimp only at h
      have hss : ∀ ti, tab.get t = some ti → ti.desc = .struct := fun ti' h' => by rw [hX] at hti; rw [hti] at h'; cases h'; exact hst
      split at h
      · rename_i off ft cs hf hr
        obtain ⟨xs, hx, hrs⟩ := (opnd_eval hT hr).agg_inv
        obtain ⟨fs, fl, hu, h1, h2, h3⟩ := field_ok hP hX hf hss
        obtain ⟨v', x', h4, h5, h6⟩ := partV_ok hP hX h hrs
        refine pure_ok (x := x') ?_ h5 h4 hI hG
        intro w1 _
        simp only [execOp, hop, Instr.field, hx, Sem.run_bind, run_under hu, Result.andThen_ok, h1, asAgg, Sem.run_pure, h3, h2, h6]
      · exact h.no_fail.elim
    | _ => rw [hst] at h; exact h.no_fail.elim
  · exact h.no_fail.elim

theorem SatN.node_inv {c : Bool} {x : DT α} {r : Nat} (h : SatN X fid n (.node c x (.fail r)) Q) : c = true ∧ SatN X fid n x Q := by
  cases h with
  | nodeT hc h => exact ⟨hc, h⟩
  | nodeF hc h => exact h.no_fail.elim

theorem op_indexAddr (hP : TabOK P tab) (hX : X.cfg.tab = tab) {t : TypeId} {y z : Operand} (hop : o.op = .indexAddr t y z) (h : SatN X fid n (opR X.cfg draw s o k) Q) (hT : RT Φ m s.T a.tmps)
    (hI : Inv Φ m w s.H) (hG : Glob Φg Φ₀ i₀ w₀ Φ m w) : o.wp P a w (After P Φg X fid n k Q Φ₀ i₀ w₀ o s a w Φ m) Qx := by
  unfold opR at h
  rw [hop] at h
  dsimp only at h
  split at h
  · rename_i v kd i hv hi
    have hri := opnd_eval hT hi
    generalize hez : a.eval z = ez at hri
    cases hri
    have hrv := opnd_eval hT hv
    generalize hey : a.eval y = ey at hrv
    split at h
    · rename_i sz_ ag_ et fl_ ze_ by_ cm_ hti
      obtain ⟨ii, d, hii, hsz, _, hu, hsh, hag, _⟩ := hP.get (hX ▸ hti)
      have hd := shOk_slice hsh rfl
      subst hd
      split at h
      · rename_i te hte
        obtain ⟨ie, de, hie, hsze, _⟩ := hP.get (hX ▸ hte)
        split at h
        · obtain ⟨h0, h⟩ := h.node_inv
          have h0 := of_decide_eq_true h0
          cases h with
          | elem hx h =>
            rename_i e
            (try dsimp only at h)
            cases hb : Nat.beq e.cells.length te.sz with
            | false => rw [hb] at h; exact h.no_fail.elim
            | true =>
              rw [hb] at h
              simp only [Nat.beq_eq] at hb
              have hlt := (List.getElem?_eq_some_iff.1 hx).1
              cases hrv with
              | tree0 => simp at hlt
              | tree esz f h1 h2 h3 h4 h5 =>
                rename_i b off cap
                have hes := h2 _ _ hx
                refine pure_ok (x := .pointer (some ⟨b, off + i.toNat * esz, none⟩)) ?_ (.cptr (f i.toNat) (fun j c hc => h3 _ _ _ _ hx hc) (fun j c hc => h4 _ _ _ _ hx hc)) h hI hG
                intro w1 _
                simp only [execOp, hop, Instr.indexAt, hez, hey, asIntOf, Sem.run_bind, Sem.run_pure, Result.andThen_ok, run_under hu]
                rw [if_pos ⟨h0, by omega⟩]
                simp only [Sem.run_bind, run_size hie, Result.andThen_ok, Sem.run_pure, addr_add, hsze]
                rw [← hb, hes]
        · split at h
          · rename_i st lo len e xs wr rm hg
            cases hb : Nat.beq e te.sz with
            | false => rw [hb] at h; exact h.no_fail.elim
            | true =>
              rw [hb] at h
              obtain ⟨h0, h⟩ := h.node_inv
              obtain ⟨h0, h0'⟩ := of_decide_eq_true h0
              split at h
              · have he : e = te.sz := by simpa using hb
                cases hrv with
                | sref0 => omega
                | sref hm h1 h2 h3 =>
                  rename_i cap b esz size
                  rcases hI.blk _ _ hg with ⟨hn, _⟩ | ⟨b', size', hr⟩
                  · rw [hm] at hn; cases hn
                  · have hl := hr.loc
                    rw [hm] at hl
                    cases hl
                    refine pure_ok (x := .pointer (some ⟨b, i.toNat * e + 0, none⟩)) ?_ (.ref hm) h hI hG
                    intro w1 _
                    simp only [execOp, hop, Instr.indexAt, hez, hey, asIntOf, Sem.run_bind, Sem.run_pure, Result.andThen_ok, run_under hu]
                    rw [if_pos ⟨h0, h0'⟩]
                    simp only [Sem.run_bind, run_size hie, Result.andThen_ok, Sem.run_pure, addr_add, hsze]
                    rw [← he]; simp
              · exact h.no_fail.elim
          · exact h.no_fail.elim
        · exact h.no_fail.elim
      · exact h.no_fail.elim
    · rename_i sz_ ag_ ne et fl_ ze_ by_ cm_ hti
      obtain ⟨ii, d, hii, hsz, _, hu, hsh, hag, _⟩ := hP.get (hX ▸ hti)
      have hd := shOk_array hsh rfl
      subst hd
      split at h
      · rename_i te hte
        obtain ⟨ie, de, hie, hsze, _⟩ := hP.get (hX ▸ hte)
        have run : ∀ (b c j : Nat), i = (j : Int) → j < ne → ey = .pointer (some ⟨b, c, none⟩) → ∀ w : World, (execOp a.eval o).run P w = .ok (.value (.pointer (some ⟨b, c + j * te.sz, none⟩))) w := by
          intro b c j hij hj hp w
          simp only [execOp, hop, Instr.indexAt, hez, hey, hp, asIntOf, Instr.sureAddr, Sem.run_bind, Sem.run_pure, Result.andThen_ok, run_under hu]
          rw [if_pos ⟨by omega, by omega⟩]
          simp only [Sem.run_bind, run_size hie, Result.andThen_ok, Sem.run_pure, addr_add, hsze]
          rw [hij]; simp
        split at h
        · cases h with
          | fin hij hj h =>
            (try dsimp only at h)
            rename_i st e oo j
            cases hrv with
            | ref hm =>
              refine pure_ok ?_ (.ref (o := oo + j * te.sz) hm) h hI hG
              intro w1 _
              rw [run _ _ j hij hj rfl, Nat.add_assoc]
        · cases h with
          | fin hij hj h =>
            (try dsimp only at h)
            rename_i v j
            cases hrv with
            | cptr g h1 h2 =>
              rename_i b c
              have key : ∀ v' : AV, SatN X fid n (pure1 (.cptr v') k) Q → (∀ jj cc, v'.cells[jj]? = some cc → v.cells[j * te.sz + jj]? = some cc) → o.wp P a w (After P Φg X fid n k Q Φ₀ i₀ w₀ o s a w Φ m) Qx := by
                intro v' hs hv
                refine pure_ok (fun w1 _ => run b c j hij hj rfl w1) (.cptr (fun jj => g (j * te.sz + jj)) (fun jj cc hjj => ?_) (fun jj cc hjj => ?_)) hs hI hG
                · rw [Nat.add_assoc]; exact h1 _ _ (hv jj cc hjj)
                · exact h2 _ _ (hv jj cc hjj)
              unfold partD at h
              split at h
              · rename_i tf htf
                cases hag : tf.agg with
                | true =>
                  rw [hag] at h
                  simp only [cond_true] at h
                  cases hb : (Nat.beq (j * te.sz) 0 && Nat.beq tf.sz v.cells.length) with
                  | true =>
                    rw [hb] at h
                    simp only [cond_true] at h
                    simp only [Bool.and_eq_true, Nat.beq_eq] at hb
                    split at h
                    · exact key _ h (fun jj cc hjj => by rw [hb.1, Nat.zero_add]; exact hjj)
                    · exact h.no_fail.elim
                  | false =>
                    rw [hb] at h
                    simp only [cond_false] at h
                    cases hb2 : Nat.ble (j * te.sz + tf.sz) v.cells.length with
                    | true =>
                      rw [hb2] at h
                      simp only [cond_true, spine_eq] at h
                      refine key _ h (fun jj cc hjj => ?_)
                      simp only [AV.cells] at hjj
                      rw [List.getElem?_take] at hjj
                      split at hjj
                      · rwa [List.getElem?_drop] at hjj
                      · cases hjj
                    | false => rw [hb2] at h; exact h.no_fail.elim
                | false =>
                  rw [hag] at h
                  simp only [cond_false] at h
                  split at h
                  · rename_i cc r hcr
                    cases hone : isOneCell cc with
                    | false => rw [hone] at h; exact h.no_fail.elim
                    | true =>
                      rw [hone] at h
                      have hone := isOneCell_cells hone
                      refine key cc h (fun jj c' hjj => ?_)
                      rw [hone] at hjj
                      cases jj with
                      | zero => simp at hjj; subst hjj; have : (v.cells.drop (j * te.sz))[0]? = some cc := by rw [hcr]; rfl
                                rw [List.getElem?_drop] at this; exact this
                      | succ jj => simp at hjj
                  · exact h.no_fail.elim
              · exact h.no_fail.elim
        · exact h.no_fail.elim
      · exact h.no_fail.elim
    · exact h.no_fail.elim
  · exact h.no_fail.elim

theorem op_index (hP : TabOK P tab) (hX : X.cfg.tab = tab) {t : TypeId} {y z : Operand} (hop : o.op = .index t y z) (h : SatN X fid n (opR X.cfg draw s o k) Q) (hT : RT Φ m s.T a.tmps)
    (hI : Inv Φ m w s.H) (hG : Glob Φg Φ₀ i₀ w₀ Φ m w) : o.wp P a w (After P Φg X fid n k Q Φ₀ i₀ w₀ o s a w Φ m) Qx := by
  unfold opR at h
  rw [hop] at h
  dsimp only at h
  split at h
  · rename_i v kd i hv hi
    have hri := opnd_eval hT hi
    generalize hez : a.eval z = ez at hri
    cases hri
    have hrv := opnd_eval hT hv
    generalize hey : a.eval y = ey at hrv
    split at h
    · rename_i sz_ ag_ fl_ ze_ by_ cm_ hti
      obtain ⟨ii, d, hii, hsz, _, hu, hsh, hag, _⟩ := hP.get (hX ▸ hti)
      have hd := shOk_string hsh rfl
      subst hd
      split at h
      · obtain ⟨h0, h⟩ := h.node_inv
        have h0 := of_decide_eq_true h0
        cases h with
        | byte hx h =>
          (try dsimp only at h)
          rename_i bs c
          cases hrv with
          | str hs =>
            rename_i x
            refine pure_ok (x := .int .u8 c.toNat) ?_ (.int _ _) h hI hG
            intro w1 _
            have hlt : i.toNat < x.size := by have := (List.getElem?_eq_some_iff.1 hx).1; rw [← hs] at this; simpa using this
            have hget : x[i.toNat]? = some c := by
              rw [ByteArray.getElem?_lt' x _ hlt]
              have : x.data.toList[i.toNat]? = some x[i.toNat] := by
                have h' : i.toNat < x.data.size := hlt
                rw [List.getElem?_eq_getElem (by simpa using h')]; rfl
              rw [hs, hx] at this; exact this.symm
            simp only [execOp, hop, Instr.index, hez, hey, asIntOf, Sem.run_bind, Sem.run_pure, Result.andThen_ok, run_under hu]
            rw [if_pos h0, hget]
            simp
      · exact h.no_fail.elim
    · rename_i sz_ ag_ ne et fl_ ze_ by_ cm_ hti
      obtain ⟨ii, d, hii, hsz, _, hu, hsh, hag, _⟩ := hP.get (hX ▸ hti)
      have hd := shOk_array hsh rfl
      subst hd
      split at h
      · rename_i cs
        split at h
        · rename_i te hte
          obtain ⟨ie, de, hie, hsze, _⟩ := hP.get (hX ▸ hte)
          cases h with
          | fin hij hj h =>
            (try dsimp only at h)
            rename_i j
            obtain ⟨xs, rfl, hrs⟩ := hrv.agg_inv
            obtain ⟨v', x', h4, h5, h6⟩ := partV_ok hP hX h hrs
            refine pure_ok (x := x') ?_ h5 h4 hI hG
            intro w1 _
            simp only [execOp, hop, Instr.index, hez, hey, asIntOf, Sem.run_bind, Sem.run_pure, Result.andThen_ok, run_under hu]
            rw [if_pos ⟨by omega, by omega⟩]
            simp only [Sem.run_bind, run_size hie, Result.andThen_ok, hsze]
            rw [hij]
            simp only [Int.toNat_natCast, h6, Result.andThen_ok]
        · exact h.no_fail.elim
      · exact h.no_fail.elim
    · exact h.no_fail.elim
  · exact h.no_fail.elim
end
end Go.Ab
