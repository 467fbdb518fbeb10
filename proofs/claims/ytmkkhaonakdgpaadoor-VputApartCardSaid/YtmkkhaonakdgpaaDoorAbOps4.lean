/- Operations that only reckon: slices and texts cut, lengths, numbers, tests. -/
import Derived.Test.YtmkkhaonakdgpaaDoorAbOps3
namespace Go.Ab
open Go
section
variable {Φg : Phi} {α : Type} {X : Ctx} {fid : FuncId} {P : Program} {n : Nat} {draw : Bool} {s : St} {o : Oper} {k : Script → DT α} {Q : α → Prop} {a : Act} {w w₀ : World}
  {Φ Φ₀ : Phi} {m i₀ : LMap} {Qx : Exit → Act → World → Prop} {tab : Tab}

def optD (s : St) (lo : Option Operand) : Option (Option AV) := match lo with | some y => (match opnd s y with | some v => some (some v) | none => none) | none => some none
/-- A bound, if there is one, as it lies. -/
def OptR (Φ : Phi) (m : LMap) : Option AV → Option Value → Prop
  | none, none => True
  | some v, some x => R Φ m v x
  | _, _ => False
theorem optD_ok (hT : RT Φ m s.T a.tmps) {lo : Option Operand} {l : Option AV} (h : optD s lo = some l) : OptR Φ m l (lo.map a.eval) := by
  unfold optD at h
  split at h
  · rename_i y
    split at h
    · rename_i v hv; cases h; exact opnd_eval hT hv
    · cases h
  · cases h; trivial

theorem run_bound {kd : IntKind} {i : Int} {y : Nat} (c : BoundsCode) (h0 : 0 ≤ i) (h1 : i ≤ y) : (Instr.sliceBound (.int kd i) y c).run P w = .ok i.toNat w := by
  simp [Instr.sliceBound, asIntOf, h0, h1]

def bnd (x : Option Value) (most dflt : Nat) (c : BoundsCode) : Sem Nat :=
  match x with
  | some v => Instr.sliceBound v most c
  | none => pure dflt
/-- A bound of a slice expression. -/
theorem bounds_hi {x : Option Value} {v : Option AV} {most dflt cap : Nat} {q : Nat → DT α} (h : SatN X fid n (boundD v most dflt q) Q) (hr : OptR Φ m v x) (hm : most ≤ cap) (hd : dflt ≤ most) :
    ∃ h', h' ≤ most ∧ SatN X fid n (q h') Q ∧ (x = none → h' = dflt) ∧ ∀ (c : BoundsCode) (w : World), (bnd x cap dflt c).run P w = .ok h' w := by
  cases v with
  | none =>
    cases x with
    | none => exact ⟨dflt, hd, h, fun _ => rfl, fun c w => rfl⟩
    | some x => exact hr.elim
  | some v =>
    cases x with
    | none => exact hr.elim
    | some x =>
      unfold boundD at h
      split at h
      · rename_i hh; cases hh
      · rename_i hh
        cases hh
        cases (show R Φ m _ x from hr)
        obtain ⟨hc, h⟩ := h.node_inv
        obtain ⟨h0, h1⟩ := of_decide_eq_true hc
        exact ⟨_, by omega, h, (fun hx => by cases hx), fun c w => run_bound c h0 (by omega)⟩
      · exact h.no_fail.elim

theorem run_sliceBounds {isSlice : Bool} {len cap hh ll : Nat} {lo hi : Option Value}
    (h1 : (bnd hi cap len (if isSlice then .sliceAcap else .sliceAlen)).run P w = .ok hh w) (h2 : (bnd lo hh 0 .sliceB).run P w = .ok ll w) :
    (Instr.sliceBounds isSlice len cap lo hi none).run P w = .ok (ll, hh, cap) w := by
  unfold Instr.sliceBounds
  simp only [Sem.run_bind, Sem.run_pure, Result.andThen_ok, Option.isSome_none, Bool.false_eq_true, if_false]
  cases hi <;> cases lo <;> simp_all [bnd]

theorem run_slice_slice {t e : TypeId} {ie : TypeInfo} {b : Option Addr} {len cap hh ll : Nat} {lo hi : Option Value} (hu : P.underlying t = some (.slice e)) (hie : P.info? e = some ie)
    (h1 : (bnd hi cap len .sliceAcap).run P w = .ok hh w) (h2 : (bnd lo hh 0 .sliceB).run P w = .ok ll w) :
    (Instr.sliceAt t (.slice b len cap) lo hi none).run P w = .ok (.slice (if cap = ll then b else b.map (·.add (ll * ie.size))) (hh - ll) (cap - ll)) w := by
  unfold Instr.sliceAt Instr.slice
  simp only [Sem.run_bind, run_under hu, Result.andThen_ok, run_sliceBounds (isSlice := true) (by simpa using h1) h2, run_size hie, Sem.run_pure]

theorem run_slice_str {t : TypeId} {x : ByteArray} {hh ll : Nat} {lo hi : Option Value} (hu : P.underlying t = some .string)
    (h1 : (bnd hi x.size x.size .sliceAlen).run P w = .ok hh w) (h2 : (bnd lo hh 0 .sliceB).run P w = .ok ll w) :
    (Instr.sliceAt t (.string x) lo hi none).run P w = .ok (.string (x.extract ll hh)) w := by
  unfold Instr.sliceAt Instr.slice
  simp only [Sem.run_bind, run_under hu, Result.andThen_ok, Option.isSome_none, Bool.false_eq_true, if_false, run_sliceBounds (isSlice := false) (by simpa using h1) h2, Sem.run_pure]
theorem extract_list (x : ByteArray) (l h : Nat) : (x.extract l h).data.toList = (x.data.toList.take h).drop l := by
  rw [ByteArray.data_extract, Array.toList_extract, List.extract_eq_take_drop, List.drop_take]

theorem op_slice (hP : TabOK P tab) (hX : X.cfg.tab = tab) {t : TypeId} {y : Operand} {lo hi mx : Option Operand} (hop : o.op = .slice t y lo hi mx) (h : SatN X fid n (opR X.cfg draw s o k) Q) (hT : RT Φ m s.T a.tmps)
    (hI : Inv Φ m w s.H) (hG : Glob Φg Φ₀ i₀ w₀ Φ m w) : o.wp P a w (After P Φg X fid n k Q Φ₀ i₀ w₀ o s a w Φ m) Qx := by
  unfold opR at h
  rw [hop] at h
  dsimp only at h
  split at h
  · split at h
    · rename_i v l hh hv hl hhh
      have hl := optD_ok (a := a) hT (lo := lo) hl
      have hhi := optD_ok (a := a) hT (lo := hi) hhh
      have hrv := opnd_eval hT hv
      generalize hey : a.eval y = ey at hrv
      have run : ∀ {rd : Acc} x', (∀ w : World, (Instr.sliceAt t ey (lo.map a.eval) (hi.map a.eval) none).run P w = .ok x' w) → ∀ w1, KeepOn Φ m rd w w1 → (execOp a.eval o).run P w1 = .ok (.value x') w1 := fun x' hx w1 _ => by
        simp only [execOp, hop, hey, Option.map_none, Sem.run_bind, hx w1, Result.andThen_ok, Sem.run_pure]
      unfold sliceD at h
      split at h
      · rename_i sz_ ag_ et fl_ ze_ by_ cm_ hti
        obtain ⟨ii, d, hii, hsz, _, hu, hsh, hag, _⟩ := hP.get (hX ▸ hti)
        have hd := shOk_slice hsh rfl
        subst hd
        split at h
        · rename_i te hte
          obtain ⟨ie, de, hie, hsze, _⟩ := hP.get (hX ▸ hte)
          -- a tree, from 'l' to 'h'
          have tree : ∀ (xs : List AV) (b : Option Addr) (cap hh ll : Nat), R Φ m (.tree xs) (.slice b xs.length cap) → ll ≤ hh → hh ≤ xs.length → (ll = 0 ∨ ∀ v ∈ xs, v.cells.length = te.sz) →
              R Φ m (.tree ((xs.take hh).drop ll)) (.slice (if cap = ll then b else b.map (·.add (ll * ie.size))) (hh - ll) (cap - ll)) := by
            intro xs b cap hh ll hr h1 h2 h3
            by_cases hz : hh - ll = 0
            · have : (xs.take hh).drop ll = [] := by rw [List.drop_eq_nil_iff]; simp; omega
              rw [this, hz]; exact .tree0
            · cases hr with
              | tree0 => simp at h2; omega
              | tree esz f g1 g2 g3 g4 g5 =>
                rename_i b off
                rw [if_neg (by omega)]
                have hes : ll * ie.size = ll * esz := by
                  rcases h3 with rfl | h3
                  · simp
                  · have hx : xs[0]? = some xs[0] := by rw [List.getElem?_eq_getElem (by omega)]
                    rw [hsze, ← h3 _ (List.getElem_mem (by omega : 0 < xs.length)), g2 _ _ hx]
                have hlen : hh - ll = ((xs.take hh).drop ll).length := by simp; omega
                rw [hlen]
                simp only [Option.map_some, addr_add, hes]
                have hget : ∀ i v, ((xs.take hh).drop ll)[i]? = some v → xs[ll + i]? = some v := fun i v hi => by
                  rw [List.getElem?_drop, List.getElem?_take] at hi
                  split at hi
                  · exact hi
                  · cases hi
                refine .tree esz (fun i j => f (ll + i) j) (by omega) (fun i v hi => g2 _ _ (hget i v hi)) (fun i v j c hi hj => ?_) (fun i v j c hi hj => g4 _ _ _ _ (hget i v hi) hj) (fun i v hi => g5 _ _ (hget i v hi))
                rw [← g3 _ _ _ _ (hget i v hi) hj, Nat.add_mul]
                congr 1; omega
          split at h
          · rename_i xs
            have hx : ∃ b cap, ey = .slice b xs.length cap ∧ xs.length ≤ cap := by
              cases hrv with
              | tree0 => exact ⟨_, _, rfl, by simp⟩
              | tree esz f g1 g2 g3 g4 g5 => exact ⟨_, _, rfl, g1⟩
            obtain ⟨b, cap, rfl, hcap⟩ := hx
            split at h
            · -- no first bound
              have hlo : lo.map a.eval = none := by cases hh' : lo.map a.eval with | none => rfl | some x => rw [hh'] at hl; exact hl.elim
              obtain ⟨h', g1, g2, _, g3⟩ := bounds_hi (P := P) (cap := cap) h hhi hcap (Nat.le_refl _)
              refine pure_ok (run _ (fun w => run_slice_slice hu hie (g3 _ w) (hh := h') (ll := 0) (by rw [hlo]; rfl))) ?_ g2 hI hG
              have := tree xs b cap h' 0 hrv (Nat.zero_le _) g1 (.inl rfl)
              simpa using this
            · cases h with
              | esz hall h =>
                split at h
                · have hhi' : hi.map a.eval = none := by cases hh' : hi.map a.eval with | none => rfl | some x => rw [hh'] at hhi; exact hhi.elim
                  obtain ⟨l', g1, g2, _, g3⟩ := bounds_hi (P := P) (cap := xs.length) h hl (Nat.le_refl _) (Nat.zero_le _)
                  refine pure_ok (run _ (fun w => run_slice_slice hu hie (hh := xs.length) (ll := l') (by rw [hhi']; rfl) (g3 _ w))) ?_ g2 hI hG
                  have := tree xs b cap xs.length l' hrv g1 (Nat.le_refl _) (.inr hall)
                  simpa using this
                · obtain ⟨h', g1, g2, _, g3⟩ := bounds_hi (P := P) (cap := cap) h hhi hcap (Nat.le_refl _)
                  obtain ⟨l', g1', g2', _, g3'⟩ := bounds_hi (P := P) (cap := h') g2 hl (Nat.le_refl _) (Nat.zero_le _)
                  refine pure_ok (run _ (fun w => run_slice_slice hu hie (g3 _ w) (g3' _ w))) ?_ g2' hI hG
                  exact tree xs b cap h' l' hrv g1' g1 (.inr hall)
          · -- nothing
            cases hrv with
            | nils =>
              rename_i b
              obtain ⟨h', g1, g2, _, g3⟩ := bounds_hi (P := P) (cap := 0) h hhi (Nat.le_refl _) (Nat.le_refl _)
              obtain ⟨l', g1', g2', _, g3'⟩ := bounds_hi (P := P) (cap := h') g2 hl (Nat.le_refl _) (Nat.zero_le _)
              have e1 : h' = 0 := by omega
              have e2 : l' = 0 := by omega
              subst e1 e2
              refine pure_ok (run _ (fun w => run_slice_slice hu hie (g3 _ w) (g3' _ w))) ?_ g2' hI hG
              simpa using R.nils
          · -- a row
            rename_i st b0 len
            split at h
            · have hlo : lo.map a.eval = none := by cases hh' : lo.map a.eval with | none => rfl | some x => rw [hh'] at hl; exact hl.elim
              have hx : ∃ b cap, ey = .slice b len cap ∧ len ≤ cap := by
                cases hrv with
                | sref0 => exact ⟨_, _, rfl, by simp⟩
                | sref _ g1 _ _ => exact ⟨_, _, rfl, g1⟩
              obtain ⟨b, cap, rfl, hcap⟩ := hx
              obtain ⟨h', g1, g2, _, g3⟩ := bounds_hi (P := P) (cap := cap) h hhi hcap (Nat.le_refl _)
              refine pure_ok (run _ (fun w => run_slice_slice hu hie (g3 _ w) (hh := h') (ll := 0) (by rw [hlo]; rfl))) ?_ g2 hI hG
              cases hrv with
              | sref0 => have : h' = 0 := by omega
                         subst this; simpa using R.sref0
              | sref hm g4 g5 g6 =>
                simp only [Nat.zero_mul, Nat.sub_zero, Option.map_some, addr_add, Nat.add_zero, ite_self]
                exact .sref hm (by omega) g5 (by omega)
            · exact h.no_fail.elim
          · exact h.no_fail.elim
        · exact h.no_fail.elim
      · -- a text
        rename_i sz_ ag_ fl_ ze_ by_ cm_ hti
        obtain ⟨ii, d, hii, hsz, _, hu, hsh, hag, _⟩ := hP.get (hX ▸ hti)
        have hd := shOk_string hsh rfl
        subst hd
        split at h
        · rename_i bs
          cases hrv with
          | str hs =>
            rename_i x
            have hlen : bs.length = x.size := by rw [← hs, Array.length_toList]; rfl
            split at h
            · have hlo : lo.map a.eval = none := by cases hh' : lo.map a.eval with | none => rfl | some x => rw [hh'] at hl; exact hl.elim
              obtain ⟨h', g1, g2, _, g3⟩ := bounds_hi (P := P) (cap := x.size) h hhi (by omega) (Nat.le_refl _)
              rw [hlen] at g3
              refine pure_ok (run _ (fun w => run_slice_str hu (g3 _ w) (hh := h') (ll := 0) (by rw [hlo]; rfl))) ?_ g2 hI hG
              exact .str (by rw [extract_list, hs]; simp)
            · split at h
              · have hhi' : hi.map a.eval = none := by cases hh' : hi.map a.eval with | none => rfl | some x => rw [hh'] at hhi; exact hhi.elim
                obtain ⟨l', g1, g2, _, g3⟩ := bounds_hi (P := P) (cap := x.size) h hl (by omega) (Nat.zero_le _)
                refine pure_ok (run _ (fun w => run_slice_str hu (hh := x.size) (ll := l') (by rw [hhi']; rfl) (g3 _ w))) ?_ g2 hI hG
                exact .str (by rw [extract_list, hs, ← hlen]; simp)
              · obtain ⟨h', g1, g2, _, g3⟩ := bounds_hi (P := P) (cap := x.size) h hhi (by omega) (Nat.le_refl _)
                obtain ⟨l', g1', g2', _, g3'⟩ := bounds_hi (P := P) (cap := h') g2 hl (Nat.le_refl _) (Nat.zero_le _)
                rw [hlen] at g3
                refine pure_ok (run _ (fun w => run_slice_str hu (g3 _ w) (g3' _ w))) ?_ g2' hI hG
                exact .str (by rw [extract_list, hs])
        · exact h.no_fail.elim
      · exact h.no_fail.elim
    · exact h.no_fail.elim
  · exact h.no_fail.elim
end
end Go.Ab
