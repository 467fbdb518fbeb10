/- Calls: the operation. -/
import Derived.Test.YtmkkhaonakdgpaaDoorAbCall
namespace Go.Ab
open Go
section
variable {Φg : Phi} {α : Type} {X : Ctx} {fid : FuncId} {P : Program} {n : Nat} {draw : Bool} {s : St} {o : Oper} {k : Script → DT α} {Q : α → Prop} {a : Act} {w w' w₀ : World}
  {Φ Φ' Φ₀ : Phi} {m m' i₀ : LMap} {Qx : Exit → Act → World → Prop} {H : Heap}

theorem R.flat1 {v : AV} {x : Value} (h : R Φ m v x) (hf : v.flat1 = true) : R Φ' m' v x := by
  cases h <;> simp only [AV.flat1, Bool.false_eq_true] at hf
  case bool => exact .bool _
  case int => exact .int _ _
  case str h => exact .str h
  case nilp => exact .nilp
  case nilf => exact .nilf
  case nili => exact .nili
  case raw h => exact .raw h
  case iface h =>
    refine .iface ?_
    cases h <;> simp only [Bool.false_eq_true] at hf
    case bool => exact .bool _
    case int => exact .int _ _
    case str h => exact .str h
theorem Rs.flats : ∀ {vs : List AV} {xs : List Value}, Rs Φ m vs xs → AV.flats vs = true → Rs Φ' m' vs xs
  | [], xs, h, _ => by rw [h.inv_nil]; exact .nil
  | v :: r, xs, h, hf => by
    simp only [AV.flats, Bool.and_eq_true] at hf
    obtain ⟨x, ys, rfl, hx, hys⟩ := h.inv_cons
    exact .cons (hx.flat1 hf.1) (Rs.flats hys hf.2)
theorem R.flat2 {v : AV} {x : Value} (h : R Φ m v x) (hf : v.flat2 = true) : R Φ' m' v x := by
  unfold AV.flat2 at hf
  split at hf
  · obtain ⟨xs, rfl, hrs⟩ := h.agg_inv
    exact .aggs (hrs.flats hf)
  · cases h with
    | iface h =>
      obtain ⟨xs, rfl, hrs⟩ := h.agg_inv
      exact .iface (.aggs (hrs.flats hf))
  · exact h.flat1 hf
theorem Rs.flat2s : ∀ {vs : List AV} {xs : List Value}, Rs Φ m vs xs → AV.flat2s vs = true → Rs Φ' m' vs xs
  | [], xs, h, _ => by rw [h.inv_nil]; exact .nil
  | v :: r, xs, h, hf => by
    simp only [AV.flat2s, Bool.and_eq_true] at hf
    obtain ⟨x, ys, rfl, hx, hys⟩ := h.inv_cons
    exact .cons (hx.flat2 hf.1) (Rs.flat2s hys hf.2)
theorem R.flat {v : AV} {x : Value} (h : R Φ m v x) (hf : v.flat = true) : R Φ' m' v x := by
  unfold AV.flat at hf
  split at hf
  · obtain ⟨xs, rfl, hrs⟩ := h.tuple_inv
    exact .tuples (hrs.flat2s hf)
  · exact h.flat2 hf

/-- Where all old blocks stay. -/
theorem Inv.world (hI : Inv Φ m w H) (h : ∀ b, b < w.heap.size → w'.heap[b]? = w.heap[b]?) (hs : w.heap.size ≤ w'.heap.size) : Inv Φ m w' H :=
  ⟨fun b o x hx => by
    have h1 := hI.phi b o x hx
    have h2 := h b (World.block_lt_of_cell? _ _ h1)
    simp only [World.cell?, h2] at h1 ⊢
    exact h1,
   fun s B hB => (hI.blk s B hB).keep rfl (Ext.refl _ _) fun b e z hm => by
    have hh := h b (hI.lt _ _ _ _ hm)
    exact ⟨fun o => by simp only [World.cell?, hh], fun o => by simp only [World.frozen?, hh], by simp only [World.shape?, hh], fun _ => rfl⟩,
   hI.map, hI.inj, fun s b e z hm => Nat.lt_of_lt_of_le (hI.lt _ _ _ _ hm) hs⟩

theorem blksOf_ok : ∀ {L : List Site} {bs : List Blk}, blksOf H L = some bs → bs.length = L.length ∧ ∀ j : Nat, (L[j]?).bind (hget H) = bs[j]?
  | [], bs, h => by simp only [blksOf, Option.some.injEq] at h; subst h; exact ⟨rfl, fun j => by simp⟩
  | p :: r, bs, h => by
    unfold blksOf at h
    split at h
    · rename_i b hb
      split at h
      · rename_i l hl
        cases h
        obtain ⟨h1, h2⟩ := blksOf_ok hl
        refine ⟨by simp [h1], fun j => ?_⟩
        cases j with
        | zero => simpa using hb
        | succ j => simpa using h2 j
      · cases h
    · cases h

theorem inc_out_inc {bk ou : List Blk} {i : Nat} (hi : i < bk.length) : hget (incH 0 bk ++ outH 0 ou) (.inc i) = bk[i]? := by
  rw [hget_append, incH_get]
  dsimp only
  rw [if_pos (Nat.zero_le _), Nat.sub_zero, List.getElem?_eq_getElem hi]
theorem inc_out_out {bk ou : List Blk} {i : Nat} : hget (incH 0 bk ++ outH 0 ou) (.out i) = ou[i]? := by
  rw [hget_append, incH_get, outH_get]
  dsimp only
  rw [if_pos (Nat.zero_le _), Nat.sub_zero]

/-- What stands behind a call. -/
def Called (Φg : Phi) (X : Ctx) (fid n : Nat) (s : St) (k : Script → DT α) (Q : α → Prop) (Φ₀ : Phi) (i₀ : LMap) (w₀ : World) (Φ : Phi) (m : LMap) (w : World) (x : Value) (w' : World) : Prop :=
  ∃ Φ' m' sc, SatN X fid n (k sc) Q ∧ R Φ' m' sc.v x ∧ Ext Φ m Φ' m' ∧ Inv Φ' m' w' (fxApp s.H sc.fx) ∧ Glob Φg Φ₀ i₀ w₀ Φ' m' w' ∧ Stays m sc.fx w w' ∧ sc.fx ≠ []

theorem callD_ok (hX : CtxOk P Φg X) {d : Nat} {opn : Bool} {go : List AV → List Blk → (Res → DT α) → DT α} {f : FuncId} {args : List AV} {zs : Array Value}
    (hgo : ∀ a i q, SatN X fid n (go a i q) Q → ∃ r, X.call f a i r ∧ SatN X fid n (q r) Q) (h : SatN X fid n (callD s d opn go args k) Q) (hr : Rs Φ m args zs.toList) (hI : Inv Φ m w s.H) (hG : Glob Φg Φ₀ i₀ w₀ Φ m w) :
    CallsV P f zs w (Called Φg X fid n s k Q Φ₀ i₀ w₀ Φ m w) := by
  unfold callD at h
  cases opn with
  | true =>
    simp only [cond_true, frcS_eq] at h
    generalize hL : reachs s.H deep [] args = L at h
    cases hok : callOk s.H L with
    | false => rw [hok] at h; exact h.no_fail.elim
    | true =>
      rw [hok] at h
      simp only [cond_true] at h
      simp only [callOk, Bool.and_eq_true] at hok
      obtain ⟨hl, hro⟩ := hok
      have hl := hitsLive_ok' hl
      split at h
      · rename_i bs hbs
        simp only [frcs_eq, frcBs_eq] at h
        obtain ⟨r, hcall, h⟩ := hgo _ _ _ h
        obtain ⟨hbl, hbg⟩ := blksOf_ok hbs
        have hsound := hX.call _ _ _ _ hcall
        have hIc : Inv Φ (renMap m (renInc L 0)) w (incH 0 (renBs (renInc L 0) bs)) := (hI.ren hro).congr fun s' => by
          rw [incH_get, headHeap_get hro, renInc_inv]
          cases s' with
          | inc j =>
            dsimp only
            rw [if_pos (Nat.zero_le _), if_pos (Nat.zero_le _), Nat.sub_zero, renBs_at, hbg]
          | _ => rfl
        refine (hsound Φ _ w zs (fun _ _ _ h => hG.phi _ _ _ (hG.base _ _ _ h)) (renVs_ok (renMap_get hro) hr) hIc).mono fun x w' hk => ?_
        obtain ⟨Φ', m'', hv, hI', hG'⟩ := hk
        obtain ⟨v, bk, ou⟩ := r
        dsimp only at h hv hI'
        cases hc : (Nat.beq bk.length L.length && renOk (renBack L 0 ++ renTold d ou 0)) with
        | false => rw [hc] at h; exact h.no_fail.elim
        | true =>
          rw [hc] at h
          simp only [Bool.and_eq_true, Nat.beq_eq] at hc
          obtain ⟨hlen, ho⟩ := hc
          simp only [cond_true] at h
          obtain ⟨hno, h⟩ := noTold_inv h
          simp only [frc_eq] at h
          obtain ⟨m', h1, h2, h3, h4, h5⟩ := back_ok (d := d) hI hG hl (renInc_nodup hro) (fun i => by
            unfold renMap
            rw [renInc_inv]
            dsimp only
            rw [if_pos (Nat.zero_le _), Nat.sub_zero]
            cases L[i]? <;> rfl) hI' hG' hlen ho (fun i hi => by have := hno i hi; rwa [Nat.zero_add] at this) (fun i hi => inc_out_inc (by omega)) (fun i hi => inc_out_out)
          refine ⟨Φ', m', _, h, renV_ok h1 hv, h2, h3, h4, fun b hb hs => h5 b hb fun s' hs' e z hm => hs s' ?_ e z hm, fun h => by cases h⟩
          show s' ∈ fxHit (_ :: (fxBack L _ ++ _))
          simp only [fxHit, Fx.hit, fxHit_append, List.nil_append, List.mem_append]
          rw [fxHit_back (by rw [renBs_len, hlen])]
          exact .inl hs'
      · exact h.no_fail.elim
  | false =>
    simp only [cond_false] at h
    split at h
    · rename_i args' L hcl
      rw [frcs_eq] at h
      obtain ⟨r, hcall, h⟩ := hgo _ _ _ h
      have hsound := hX.call _ _ _ _ hcall
      obtain ⟨_, hcr⟩ := closeVs_ok hI hcl hr
      have hcr := hcr (μ := m0) (L'' := L) (fun h => by cases h) (fun _ h => h)
      have hI1 := hI.frz L
      have hG1 := hG.frz L hI
      refine (hsound _ m0 w zs (fun _ _ _ h => hG1.phi _ _ _ (hG1.base _ _ _ h)) hcr ⟨hI1.phi, fun s B hB => (by cases hB), fun _ _ => rfl, fun _ _ _ _ _ _ _ _ _ h => (by cases h), fun _ _ _ _ h => (by cases h)⟩).mono fun x w' hk => ?_
      obtain ⟨Φ', m'', hv, hI', hG'⟩ := hk
      obtain ⟨v, bk, ou⟩ := r
      have hsame : ∀ b, b < w.heap.size → w'.heap[b]? = w.heap[b]? := fun b hb => hG'.same b hb fun i e z h => by cases h
      split at h
      · rename_i v_ ou_ heq
        cases heq
        cases hf : v.flat with
        | true =>
          rw [hf] at h
          simp only [cond_true] at h
          refine ⟨Φ, m, _, h, hv.flat hf, Ext.refl _ _, hI.world hsame hG'.size, ⟨hG.phi, hG.phiNew, hG.inc, hG.own, fun b hb hi => ?_, Nat.le_trans hG.size hG'.size, hG'.os.trans hG.os, hG'.out.trans hG.out, hG'.tape.trans hG.tape, hG.base⟩, fun b hb _ => hsame b hb, fun h => by cases h⟩
          rw [hsame b (Nat.lt_of_lt_of_le hb hG.size)]
          exact hG.same b hb hi
        | false =>
          rw [hf] at h
          simp only [cond_false] at h
          cases ho : renOk (renTold d ou 0) with
          | false => rw [ho] at h; exact h.no_fail.elim
          | true =>
            rw [ho] at h
            simp only [cond_true] at h
            obtain ⟨hno, h⟩ := noTold_inv h
            simp only [frc_eq, frcBs_eq] at h
            obtain ⟨m', h1, h2, h3, h4, h5⟩ := back_ok (L := []) (bk := []) (ou := ou) (d := d) (mc := m0) (m'' := m'') hI1 hG1 (fun s hs => by cases hs) List.nodup_nil (fun i => by simp [m0]) hI' hG' rfl ho
              (fun i hi => by have := hno i hi; rw [Nat.zero_add] at this; rw [hget_frz, this]; rfl) (fun i hi => absurd hi (Nat.not_lt_zero _)) (fun i hi => inc_out_out)
            refine ⟨Φ', m', _, h, renV_ok h1 hv, (frzPhi_ext hI).trans h2, ?_, h4, fun b hb _ => hsame b hb, fun h => by cases h⟩
            have : fxApp s.H (.step :: (frzAll L ++ fxTold d (renBs (renTold d ou 0) ou) 0)) = fxApp (fxApp s.H (frzAll L)) (fxTold d (renBs (renTold d ou 0) ou) 0) := fxApp_append _ _ _
            rw [this]
            exact h3
      · exact h.no_fail.elim
    · exact h.no_fail.elim

theorem wp_of_callsV {f : FuncId} {zs : Array Value} {R : Value → World → Prop} {next : Act → World → Prop} (hrun : (execOp a.eval o).run P w = (callFunc f zs).run P w) (h : CallsV P f zs w R) (hR : ∀ v w', R v w' → next (a.put o.dst v) w') :
    o.wp P a w next Qx := by
  unfold Oper.wp
  rw [hrun]
  unfold CallsV at h
  split at h
  · rename_i hr; rw [hr]; exact hR _ _ h
  · rename_i hr
    rw [hr]
    exact Calls.mono h fun e w'' he => by cases e <;> first | exact hR _ _ he | exact he.elim
  · exact h.elim

theorem after_called {x : Value} {w' : World} (h : Called Φg X fid n s k Q Φ₀ i₀ w₀ Φ m w x w') : After P Φg X fid n k Q Φ₀ i₀ w₀ o s a w Φ m (a.put o.dst x) w' := by
  obtain ⟨Φ', m', sc, h1, h2, h3, h4, h5, h6, h7⟩ := h
  exact ⟨Φ', m', sc, x, h1, h2, rfl, h3, h4, h5, h6, fun h => absurd h h7⟩

theorem op_callV (hX : CtxOk P Φg X) {c : Call} {fx : Operand} (hop : o.op = .call c) (hc : c.callee = .value fx) (h : SatN X fid n (opR X.cfg draw s o k) Q) (hT : RT Φ m s.T a.tmps)
    (hI : Inv Φ m w s.H) (hG : Glob Φg Φ₀ i₀ w₀ Φ m w) : o.wp P a w (After P Φg X fid n k Q Φ₀ i₀ w₀ o s a w Φ m) Qx := by
  unfold opR at h
  rw [hop] at h
  dsimp only at h
  split at h
  · exact h.no_fail.elim
  · rename_i args hargs
    rw [hc] at h
    dsimp only at h
    have hra := opnds_eval (a := a) hT hargs
    have key : ∀ {f as cs} {d : Nat}, opnd s fx = some (.func f as cs) → SatN X fid n (callD s d (X.cfg.opens f) (fun a i q => .call f a i q) (as ++ args ++ cs) k) Q → o.wp P a w (After P Φg X fid n k Q Φ₀ i₀ w₀ o s a w Φ m) Qx := by
      intro f as cs d hf h
      obtain ⟨xs, ys, hev, h1, h2⟩ := (opnd_eval hT hf).func_inv
      have hrs : Rs Φ m (as ++ args ++ cs) (xs ++ c.args.map a.eval ++ ys).toList := by
        simp only [Array.toList_append, Array.toList_map]
        exact (h1.append hra).append h2
      refine wp_of_callsV (zs := xs ++ c.args.map a.eval ++ ys) (f := f) ?_ (callD_ok hX (fun a i q hq => ?_) h hrs hI hG) fun v w' hk => after_called hk
      · simp only [execOp, hop, resolve, hc, hev, Deferred.ofValue, Sem.run_bind, Sem.run_pure, Result.andThen_ok, invoke]
      · cases hq with
        | call h1 h2 => exact ⟨_, h1, h2⟩
    split at h
    · rename_i f as cs d hf hd; exact key hf h
    · rename_i f as cs hf hd; exact key hf h
    · exact h.no_fail.elim

theorem op_invoke (hX : CtxOk P Φg X) {c : Call} {rx : Operand} {name : String} (hop : o.op = .call c) (hc : c.callee = .invoke rx name) (h : SatN X fid n (opR X.cfg draw s o k) Q) (hT : RT Φ m s.T a.tmps)
    (hI : Inv Φ m w s.H) (hG : Glob Φg Φ₀ i₀ w₀ Φ m w) : o.wp P a w (After P Φg X fid n k Q Φ₀ i₀ w₀ o s a w Φ m) Qx := by
  unfold opR at h
  rw [hop] at h
  dsimp only at h
  split at h
  · exact h.no_fail.elim
  · rename_i args hargs
    rw [hc] at h
    dsimp only at h
    have hra := opnds_eval (a := a) hT hargs
    split at h
    · rename_i t v d hf hd
      have hrv := opnd_eval hT hf
      generalize hev : a.eval rx = ev at hrv
      cases hrv with
      | iface hrv =>
        rename_i x
        cases h with
        | meth hmeth h =>
        rename_i f fld
        (try dsimp only at h)
        have hgo : ∀ a i q, SatN X fid n (.call f a i q : DT α) Q → ∃ r, X.call f a i r ∧ SatN X fid n (q r) Q := fun a i q hq => by
          cases hq with
          | call h1 h2 => exact ⟨_, h1, h2⟩
        have hm := hX.meth _ _ _ _ hmeth
        have key : ∀ {u : AV} {y : Value}, R Φ m u y → (∀ w : World, (method (P.types.size + Made.depth) t x name).run P w = .ok (f, y) w) → SatN X fid n (callD s d (X.cfg.opens f) (fun a i q => .call f a i q) (u :: args) k) Q →
            o.wp P a w (After P Φg X fid n k Q Φ₀ i₀ w₀ o s a w Φ m) Qx := by
          intro u y hu hmy h
          have hrs : Rs Φ m (u :: args) (#[y] ++ c.args.map a.eval).toList := by
            simp only [Array.toList_append, Array.toList_map]
            exact .cons hu hra
          refine wp_of_callsV (zs := #[y] ++ c.args.map a.eval) (f := f) ?_ (callD_ok hX hgo h hrs hI hG) fun v w' hk => after_called hk
          simp only [execOp, hop, resolve, hc, hev, Sem.run_bind, Sem.run_pure, Result.andThen_ok, invoke, callMethod]
          have h0 : (#[Value.iface t x] ++ c.args.map a.eval)[0]? = some (.iface t x) := by rw [Array.getElem?_append_left (by simp)]; rfl
          rw [h0]
          simp only [Sem.run_bind, run_program, Result.andThen_ok, hmy]
          rw [show (#[Value.iface t x] ++ c.args.map a.eval).extract 1 = c.args.map a.eval by apply Array.ext'; simp; exact List.take_of_length_le (by simp)]
        cases fld with
        | false => exact key hrv (fun w => hm w x) h
        | true =>
          simp only [cond_true] at h
          split at h
          · rename_i cc
            obtain ⟨ys, rfl, hys⟩ := hrv.agg_inv
            obtain ⟨y, r1, hy0, hy1, hys⟩ := hys.inv_cons
            have hnil := hys.inv_nil
            subst hnil
            have hys' : ys = #[y] := by apply Array.ext'; simpa using hy0
            subst hys'
            exact key hy1 (fun w => hm w y) h
          · exact h.no_fail.elim
    · exact h.no_fail.elim
end
end Go.Ab
