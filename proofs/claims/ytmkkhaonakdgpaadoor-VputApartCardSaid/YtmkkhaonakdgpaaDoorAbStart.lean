/- A function's body, from its call to what it hands back. -/
import Derived.Test.YtmkkhaonakdgpaaDoorAbExec
namespace Go.Ab
open Go
section
variable {Φg : Phi} {X : Ctx} {fid : FuncId} {P : Program} {w₀ : World} {Φ₀ : Phi} {i₀ : LMap} {Φ : Phi} {m : LMap} {w : World} {H : Heap}

theorem Glob.start {inc : List Blk} (hI : Inv Φ m w (incH 0 inc)) (hb : ∀ b o x, Φg b o = some x → Φ b o = some x) : Glob Φg Φ m w Φ m w := by
  refine ⟨fun _ _ _ h => h, fun b o h h' => absurd h' h, fun _ _ _ _ h => h, fun s b e z h => ?_, fun _ _ _ => rfl, Nat.le_refl _, rfl, rfl, rfl, hb⟩
  cases hg : hget (incH 0 inc) s with
  | none => rw [hI.map s hg] at h; cases h
  | some B =>
    rw [incH_get] at hg
    cases s with
    | inc j => exact .inl ⟨j, e, z, h⟩
    | _ => cases hg
/-- The results. -/
theorem results_ok (hX : CtxOk P Φg X) {s : St} {tmps : Array Value} (hT : RT Φ m s.T tmps) (hI : Inv Φ m w s.H) {β : Type} {Q : β → Prop} {n : Nat} : ∀ (rs : List ResultVar) {k : List AV → DT β}, SatN X fid n (resultsD X.cfg s rs k) Q →
    ∃ vs xs, SatN X fid n (k vs) Q ∧ Rs Φ m vs xs ∧ (rs.mapM (fun r : ResultVar => match r with
      | .tmp t => (pure (tmps.getD t undef) : Sem Value)
      | .cell a t => do loadVar t (← asAddr (tmps.getD a undef)))).run P w = .ok xs w
  | [], k, h => ⟨[], [], h, .nil, by simp⟩
  | .tmp t :: r, k, h => by
    unfold resultsD at h
    split at h
    · rename_i v hv
      obtain ⟨x, hx, hr⟩ := hT t v hv
      obtain ⟨vs, xs, h1, h2, h3⟩ := results_ok hX hT hI r h
      refine ⟨v :: vs, x :: xs, h1, .cons hr h2, ?_⟩
      rw [List.mapM_cons]
      have : tmps.getD t undef = x := by rw [Array.getD_eq_getD_getElem?, hx]; rfl
      simp only [Sem.run_bind, Sem.run_pure, Result.andThen_ok, h3, this]
    · exact h.no_fail.elim
  | .cell a t :: r, k, h => by
    unfold resultsD at h
    split at h
    · rename_i p hp
      obtain ⟨x, hx, hr⟩ := hT a p hp
      obtain ⟨v', x', rd, h1, h2, h3⟩ := loadD_ok hX.tab rfl hI hr h
      have h3 := h3 w (KeepOn.refl hI)
      obtain ⟨vs, xs, h4, h5, h6⟩ := results_ok hX hT hI r h1
      refine ⟨v' :: vs, x' :: xs, h4, .cons h2 h5, ?_⟩
      rw [List.mapM_cons]
      have hg : tmps.getD a undef = x := by rw [Array.getD_eq_getD_getElem?, hx]; rfl
      have h7 : (do loadVar t (← asAddr x) : Sem Value).run P w = .ok x' w := by
        cases hr with
        | top => unfold loadD at h; exact h.no_fail.elim
          | raw _ => unfold loadD at h; exact h.no_fail.elim
        | _ => simp [Instr.loadAt, Instr.sureAddr, asAddr] at h3 ⊢ <;> exact h3
      simp only [hg]
      rw [Sem.run_bind, h7]
      simp only [Result.andThen_ok, Sem.run_bind, Sem.run_pure, h6]
    · exact h.no_fail.elim

theorem renSelf_inv : ∀ (n i : Nat) (s : Site), (renSelf n i).inv s = match s with | .inc j => if i ≤ j ∧ j < i + n then some (.inc j) else none | _ => none
  | 0, i, s => by
    cases s with
    | inc j => simp only [renSelf, Ren.inv]; rw [if_neg (by omega)]
    | _ => rfl
  | n + 1, i, s => by
    simp only [renSelf, Ren.inv]
    by_cases e : Site.inc i = s
    · subst e; rw [Site.eq_refl]; simp
    · rw [Site.eq_ne e, cond_false, renSelf_inv n (i + 1) s]
      cases s with
      | inc j =>
        have hne : i ≠ j := fun h => e (by rw [h])
        dsimp only
        by_cases h : i ≤ j ∧ j < i + (n + 1)
        · rw [if_pos (by omega), if_pos h]
        · rw [if_neg (by omega), if_neg h]
      | _ => rfl
theorem renOut_inv : ∀ (L : List Site) (i : Nat) (s : Site), (renOut L i).inv s = match s with | .out j => if i ≤ j then L[j - i]? else none | _ => none
  | [], i, s => by cases s <;> simp [renOut, Ren.inv]
  | p :: r, i, s => by
    simp only [renOut, Ren.inv]
    by_cases e : Site.out i = s
    · subst e; rw [Site.eq_refl]; simp
    · rw [Site.eq_ne e, cond_false, renOut_inv r (i + 1) s]
      cases s with
      | out j =>
        have hne : i ≠ j := fun h => e (by rw [h])
        dsimp only
        by_cases h : i ≤ j
        · rw [if_pos (by omega), if_pos h, show j - i = (j - (i + 1)) + 1 by omega, List.getElem?_cons_succ]
        · rw [if_neg (by omega), if_neg h]
      | _ => rfl
theorem inv_append : ∀ (ρ ρ' : Ren) (s : Site), (ρ ++ ρ' : Ren).inv s = match ρ.inv s with | some a => some a | none => ρ'.inv s
  | [], _, _ => rfl
  | (a, c) :: r, ρ', s => by
    simp only [List.cons_append, Ren.inv]
    cases Site.eq c s with
    | true => rfl
    | false => exact inv_append r ρ' s

theorem takeB_ok {mk : Nat → Site} : ∀ {n i : Nat} {l : List Blk}, takeB H mk n i = some l → l.length = n ∧ ∀ j, j < n → hget H (mk (i + j)) = l[j]?
  | 0, i, l, h => by simp only [takeB, Option.some.injEq] at h; subst h; exact ⟨rfl, fun j hj => absurd hj (Nat.not_lt_zero _)⟩
  | n + 1, i, l, h => by
    unfold takeB at h
    split at h
    · rename_i b hb
      split at h
      · rename_i l' hl'
        cases h
        obtain ⟨h1, h2⟩ := takeB_ok hl'
        refine ⟨by simp [h1], fun j hj => ?_⟩
        cases j with
        | zero => simpa using hb
        | succ j => rw [List.getElem?_cons_succ, ← h2 j (by omega), show i + (j + 1) = i + 1 + j by omega]
      · cases h
    · cases h

def oneV : List Value → Value
  | [v] => v
  | vs => .tuple vs.toArray
/-- **What is handed back.** -/
theorem finish_ok {s : St} {ninc n : Nat} {vs : List AV} {x : Value} {r : Res} (h : SatN X fid n (finishD X.cfg fid s ninc vs) (· = r)) (hr : R Φ m (oneA vs) x) (hI : Inv Φ m w s.H)
    (hG : Glob Φg Φ₀ i₀ w₀ Φ m w) (hn : ∀ i b e z, i₀ (.inc i) = .at b e z → i < ninc) :
    ∃ Φ' m', R Φ' m' r.v x ∧ Inv Φ' m' w (incH 0 r.back ++ outH 0 r.out) ∧ Glob Φg Φ₀ i₀ w₀ Φ' m' w := by
  unfold finishD at h
  dsimp only at h
  split at h
  · rename_i r0 hnil
    cases h with
    | ret h =>
    subst h
    unfold nilRes at hnil
    cases hf : X.cfg.fresh fid && Nat.beq ninc 0 with
    | false => rw [hf] at hnil; cases hnil
    | true =>
      rw [hf] at hnil
      simp only [Bool.and_eq_true, Nat.beq_eq] at hf
      obtain ⟨_, h0⟩ := hf
      subst h0
      simp only [cond_true] at hnil
      split at hnil
      · rename_i hv
        cases hnil
        rw [hv] at hr
        cases hr with
        | nils =>
          refine ⟨Φ, m0, .sref0, ⟨hI.phi, fun s B hB => ?_, fun _ _ => rfl, fun _ _ _ _ _ _ _ _ _ _ _ _ _ h => (by cases h), fun _ _ _ _ h => (by cases h)⟩,
            ⟨hG.phi, hG.phiNew, fun i b e z hi => absurd (hn i b e z hi) (Nat.not_lt_zero _), fun _ _ _ _ h => (by cases h), hG.same, hG.size, hG.os, hG.out, hG.tape, hG.base⟩⟩
          simp only [incH, outH, List.nil_append, hget] at hB
          cases he : (Site.out 0).eq s with
          | false => rw [he] at hB; cases hB
          | true => rw [he] at hB; cases hB; exact .inl ⟨rfl, rfl, rfl⟩
      · cases hnil
  split at h
  · rename_i v Lz hcl
    rw [frcS_eq] at h
    generalize hL : (bif X.cfg.fresh fid then ownRefs (reachs s.H deep [] (v :: incVals s.H ninc 0)) else []) = L at h
    generalize hρ : renSelf ninc 0 ++ renOut L 0 = ρ at h
    cases ho : renOk ρ with
    | false => rw [ho] at h; exact h.no_fail.elim
    | true =>
      rw [ho] at h
      simp only [cond_true, frcH_eq] at h
      have hI1 := hI.frz Lz
      have hG1 := hG.frz Lz hI
      have hself : ∀ i, i < ninc → ρ.inv (.inc i) = some (.inc i) := fun i hi => by
        rw [← hρ, inv_append, renSelf_inv]
        dsimp only
        rw [if_pos (by omega)]
      have hr1 : R (frzPhi Φ m w s.H Lz) (renMap m ρ) (renV ρ deep v) x := by
        cases hf : X.cfg.fresh fid with
        | true =>
          rw [hf] at hcl
          cases hcl
          exact renV_ok (renMap_get ho) (hr.mono (frzPhi_ext hI))
        | false =>
          rw [hf] at hcl
          obtain ⟨_, h2⟩ := closeV_ok hI hcl hr
          exact renV_ok (renMap_get ho) (h2 (μ := m) (L'' := Lz) (fun _ _ _ _ _ h => h) (fun _ h => h))
      split at h
      · rename_i bs os hbs hos
        rw [frc_eq] at h
        cases h with
        | ret h =>
          subst h
          refine ⟨frzPhi Φ m w s.H Lz, renMap m ρ, hr1, (hI1.ren ho).congr fun s' => ?_, hG1.ren fun i b e z hi => hself i (hn i b e z hi)⟩
          obtain ⟨b1, b2⟩ := takeB_ok hbs
          obtain ⟨o1, o2⟩ := takeB_ok hos
          dsimp only
          rw [hget_append, incH_get, outH_get]
          cases s' with
          | inc j =>
            dsimp only
            rw [if_pos (Nat.zero_le _), Nat.sub_zero]
            by_cases hj : j < ninc
            · have := b2 j hj
              rw [Nat.zero_add] at this
              rw [← this]
              cases hget (headHeap (fxApp s.H (frzAll Lz)) ρ ρ) (.inc j) <;> rfl
            · rw [List.getElem?_eq_none (by omega), headHeap_get ho, ← hρ, inv_append, renSelf_inv, renOut_inv]
              dsimp only
              rw [if_neg (by omega)]
              rfl
          | out j =>
            dsimp only
            rw [if_pos (Nat.zero_le _), Nat.sub_zero]
            by_cases hj : j < L.length
            · have := o2 j hj
              rw [Nat.zero_add] at this
              rw [← this]
            · rw [List.getElem?_eq_none (by omega), headHeap_get ho, ← hρ, inv_append, renSelf_inv, renOut_inv]
              dsimp only
              rw [if_pos (Nat.zero_le _), Nat.sub_zero, List.getElem?_eq_none (by omega)]
              rfl
          | _ => rw [headHeap_get ho, ← hρ, inv_append, renSelf_inv, renOut_inv]; rfl
      · exact h.no_fail.elim
  · exact h.no_fail.elim

theorem DstOk.mono {N N' : Nat} {l : List Oper} (h : DstOk N l) (hN : N ≤ N') : DstOk N' l := fun o ho d hd => Nat.lt_of_lt_of_le (h o ho d hd) hN

/-- **A function is as the runner says.** -/
theorem start_ok (hX : CtxOk P Φg X) {f : FuncId} {fn : Func} {c : Code} {args : List AV} {inc : List Blk} {r : Res} {n : Nat} (hf : P.funcs[f]? = some fn) (hb : fn.body = some c) (hne : (fn.name == "runtime.NumGoroutine") = false)
    (hc : CodeOk X.cfg f fn.ntmps c) (h : SatN X f n (startD X.cfg f fn args inc) (· = r)) : SoundCall P Φg f args inc r := by
  intro Φ m w xs hbase hxs hI
  unfold CallsV
  have hcall : (callFunc f xs).run P w = .ok (.enter f xs) w := by
    simp only [callFunc, Sem.run_bind, run_program, Result.andThen_ok, hf, hne, hb, Option.isNone_some, Bool.false_eq_true, if_false, Sem.run_pure]
  rw [hcall]
  unfold startD at h
  rw [hb] at h
  dsimp only at h
  cases hle : Nat.ble args.length fn.ntmps with
  | false => rw [hle] at h; exact h.no_fail.elim
  | true =>
    rw [hle] at h
    have hle := Nat.le_of_ble_eq_true hle
    have hlen : args.length = xs.size := by simpa using hxs.1
    refine calls_of_wp hf hb ?_
    have hg : Good Φg Φ m w fn.ntmps ⟨argsT 0 args, incH 0 inc⟩ { tmps := xs ++ Array.replicate (fn.ntmps - xs.size) undef, defers := [] } w := by
      refine ⟨Φ, m, fun t v ht => ?_, hI, Glob.start hI hbase, by simp; omega, rfl⟩
      rw [argsT_get, if_pos (Nat.zero_le _), Nat.sub_zero] at ht
      obtain ⟨x, hx, hr⟩ := hxs.2 t v ht
      have hx' : xs[t]? = some x := by simpa using hx
      refine ⟨x, ?_, hr⟩
      rw [Array.getElem?_append_left (Array.getElem?_eq_some_iff.1 hx').1]
      exact hx'
    refine wp_mono (exec_ok hX c hc h hg) fun e a' w' hq => ?_
    obtain ⟨ex, s', j, he, hj, hs, Φ', m', hT', hI', hG', hN', hD'⟩ := hq
    have fin : SatN X f j (resultsD X.cfg s' fn.results.toList fun vs => finishD X.cfg f s' inc.length vs) (· = r) → ∃ v, (results fn a'.tmps).run P w' = .ok v w' ∧ ∃ Φ' m', R Φ' m' r.v v ∧ Inv Φ' m' w' (incH 0 r.back ++ outH 0 r.out) ∧ Glob Φg Φ m w Φ' m' w' := by
      intro hs
      obtain ⟨vs, ys, h1, h2, h3⟩ := results_ok hX hT' hI' fn.results.toList hs
      have hlen : vs.length = ys.length := h2.1
      have hres : (results fn a'.tmps).run P w' = .ok (oneV ys) w' := by
        unfold results
        rw [Array.mapM_eq_mapM_toList]
        simp only [Sem.run_bind, Sem.run_map]
        erw [h3]
        simp only [Result.andThen_ok]
        cases ys with
        | nil => simp [oneV]
        | cons y r => cases r <;> simp [oneV]
      have hrv : R Φ' m' (oneA vs) (oneV ys) := by
        cases vs with
        | nil => rw [h2.inv_nil]; exact R.tuples (by simpa using Rs.nil)
        | cons v r =>
          obtain ⟨y, ys', rfl, hy, hys⟩ := h2.inv_cons
          cases r with
          | nil => rw [hys.inv_nil]; exact hy
          | cons v' r' =>
            obtain ⟨y', ys'', rfl, hy', hys'⟩ := hys.inv_cons
            exact R.tuples (by simpa using Rs.cons hy (Rs.cons hy' hys'))
      exact ⟨_, hres, finish_ok h1 hrv hI' hG' fun i b e z hi => by
        cases hg : hget (incH 0 inc) (.inc i) with
        | none => rw [hI.map _ hg] at hi; cases hi
        | some B =>
          rw [incH_get] at hg
          dsimp only at hg
          rw [if_pos (Nat.zero_le _), Nat.sub_zero] at hg
          exact (List.getElem?_eq_some_iff.1 hg).1⟩
    cases e <;> simp only [exOf] at he <;> cases he
    · obtain ⟨v, h1, h2⟩ := fin hs
      exact ⟨hD', v, h1, h2⟩
    · exact hs.no_fail.elim
    · obtain ⟨v, h1, h2⟩ := fin hs
      exact ⟨hD', v, h1, h2⟩
end
end Go.Ab
#print axioms Go.Ab.start_ok
