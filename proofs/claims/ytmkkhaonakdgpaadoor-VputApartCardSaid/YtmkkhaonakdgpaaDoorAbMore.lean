/- The rest of the operations: lengths, the least, the greatest, type tests, conversions, made slices. -/
import Derived.Test.YtmkkhaonakdgpaaDoorAbCall2
import Derived.Laws.IdiomStrings
import Derived.Laws.MakeOwn
namespace Go.Ab
open Go
section
variable {Φg : Phi} {α : Type} {X : Ctx} {fid : FuncId} {P : Program} {n : Nat} {draw : Bool} {s : St} {o : Oper} {k : Script → DT α} {Q : α → Prop} {a : Act} {w w' w₀ : World}
  {Φ Φ' Φ₀ : Phi} {m m' i₀ : LMap} {Qx : Exit → Act → World → Prop} {H : Heap} {tab : Tab}

theorem Inv.drawn (hI : Inv Φ m w H) (d : Nat) : Inv Φ m { w with drawn := d } H :=
  ⟨hI.phi, fun s B hB => by
    cases B with
    | box v wr => obtain ⟨b, e, h⟩ := hI.blk s _ hB; exact ⟨b, e, ⟨h.loc, h.shape, h.cell, h.nf, h.phi⟩⟩
    | row e xs wr rm =>
      rcases hI.blk s _ hB with h | ⟨b, z, h⟩
      · exact .inl h
      · exact .inr ⟨b, z, ⟨h.loc, h.pos, h.len, h.shape, h.each, h.cell, h.nf, h.phi, h.room, h.one⟩⟩
    | gone => trivial, hI.map, hI.inj, hI.lt⟩
theorem Glob.drawn (hG : Glob Φg Φ₀ i₀ w₀ Φ m w) (d : Nat) : Glob Φg Φ₀ i₀ w₀ Φ m { w with drawn := d } :=
  ⟨hG.phi, hG.phiNew, hG.inc, hG.own, hG.same, hG.size, hG.os, hG.out, hG.tape, hG.base⟩
/-- One new block, behind a draw or none. -/
theorem allocd_ok {st : Site} {B : Blk} {v : AV} {x : Value} {rd : Acc} {ob : Obj} {e : Nat} {z : Nat × Nat} (d : Nat) (hrun : (execOp a.eval o).run P w = .ok (.value x) (({ w with drawn := d } : World).alloc ob)) (hs : hget s.H st = none)
    (hB : BlkOk Φ (upd m st (.at w.heap.size e z)) (({ w with drawn := d } : World).alloc ob) st B) (hr : R Φ (upd m st (.at w.heap.size e z)) v x) (h : SatN X fid n (k ⟨v, [.alloc st B], rd⟩) Q)
    (hI : Inv Φ m w s.H) (hG : Glob Φg Φ₀ i₀ w₀ Φ m w) : o.wp P a w (After P Φg X fid n k Q Φ₀ i₀ w₀ o s a w Φ m) Qx := by
  unfold Oper.wp
  rw [hrun]
  refine ⟨Φ, _, ⟨v, [.alloc st B], rd⟩, x, h, hr, rfl, Ext.upd (hI.map st hs), (hI.drawn d).alloc hs hB, (hG.drawn d).alloc (hI.map st hs), fun b hb _ => ?_, fun h => by cases h⟩
  simp only [World.alloc, Array.getElem?_push]
  rw [if_neg (Nat.ne_of_lt hb)]

/-! ### Lengths -/
theorem goInt_nat (n : Nat) : goInt n = .int .i64 n := rfl
theorem op_len (hP : TabOK P tab) (hX : X.cfg.tab = tab) {c : Call} (hop : o.op = .call c) (hc : c.callee = .builtin .len) (h : SatN X fid n (opR X.cfg draw s o k) Q) (hT : RT Φ m s.T a.tmps)
    (hI : Inv Φ m w s.H) (hG : Glob Φg Φ₀ i₀ w₀ Φ m w) : o.wp P a w (After P Φg X fid n k Q Φ₀ i₀ w₀ o s a w Φ m) Qx := by
  unfold opR at h
  rw [hop] at h
  dsimp only at h
  split at h
  · exact h.no_fail.elim
  · rename_i args hargs
    rw [hc] at h
    dsimp only at h
    unfold builtinD at h
    have hra := opnds_eval (a := a) hT hargs
    split at h
    · rename_i x
      split at h
      · rename_i t r hats
        split at h
        · rename_i ti hti
          split at h
          · rename_i len hlen
            obtain ⟨y, ys, hys, hy, hys'⟩ := hra.inv_cons
            have hats0 : c.argTypes[0]? = some t := by
              have : c.argTypes.toList[0]? = some t := by rw [hats]; rfl
              simpa using this
            have hargs0 : (c.args.map a.eval)[0]? = some y := by
              have : (c.args.toList.map a.eval)[0]? = some y := by rw [hys]; rfl
              simpa using this
            obtain ⟨ii, d, hii, hsz, _, hu, hsh, hag, _⟩ := hP.get (hX ▸ hti)
            refine pure_ok (x := goInt len) ?_ (.int _ _) h hI hG
            intro w1 _
            simp only [execOp, hop, resolve, hc, Sem.run_bind, Sem.run_pure, Result.andThen_ok, invoke, builtin, Builtin.len_, hats0, hargs0, run_under hu]
            unfold lenOf at hlen
            split at hlen
            · rename_i hd
              have hd := shOk_slice hsh hd
              subst hd
              cases hlen
              cases hy <;> simp
            · rename_i hd
              have hd := shOk_slice hsh hd
              subst hd
              cases hlen
              cases hy; simp
            · rename_i hd
              have hd := shOk_slice hsh hd
              subst hd
              cases hlen
              cases hy <;> simp
            · rename_i bs hd
              have hd := shOk_string hsh hd
              subst hd
              cases hlen
              cases hy with
              | str hs =>
                rename_i x
                have : bs.length = x.size := by rw [← hs, Array.length_toList]; rfl
                simp [this]
            · cases hlen
          · exact h.no_fail.elim
        · exact h.no_fail.elim
      · exact h.no_fail.elim
    · rename_i hbi
      cases hbi
    · rename_i hbi; cases hbi
    · rename_i hbi; cases hbi
    · exact h.no_fail.elim

theorem minInt_ok {kd : IntKind} : ∀ {l : List AV} {b r : Int} {xs : List Value}, minInt b l = some r → Rs Φ m l xs → ∀ w : World, (xs.foldlM Builtin.min2 (.int kd b)).run P w = .ok (.int kd r) w
  | [], b, r, xs, h, hr, w => by rw [hr.inv_nil]; cases h; rfl
  | v :: l, b, r, xs, h, hr, w => by
    obtain ⟨x, ys, rfl, hx, hys⟩ := hr.inv_cons
    cases v <;> simp only [minInt] at h <;> first | cases h | skip
    cases hx
    simp only [List.foldlM_cons, Sem.run_bind, Builtin.min2, Sem.run_pure, Result.andThen_ok]
    exact minInt_ok h hys w
theorem maxInt_ok {kd : IntKind} : ∀ {l : List AV} {b r : Int} {xs : List Value}, maxInt b l = some r → Rs Φ m l xs → ∀ w : World, (xs.foldlM Builtin.max2 (.int kd b)).run P w = .ok (.int kd r) w
  | [], b, r, xs, h, hr, w => by rw [hr.inv_nil]; cases h; rfl
  | v :: l, b, r, xs, h, hr, w => by
    obtain ⟨x, ys, rfl, hx, hys⟩ := hr.inv_cons
    cases v <;> simp only [maxInt] at h <;> first | cases h | skip
    cases hx
    simp only [List.foldlM_cons, Sem.run_bind, Builtin.max2, Sem.run_pure, Result.andThen_ok]
    exact maxInt_ok h hys w
theorem op_minmax {c : Call} {b : Builtin} (hop : o.op = .call c) (hc : c.callee = .builtin b) (hb : b = .min ∨ b = .max) (h : SatN X fid n (opR X.cfg draw s o k) Q) (hT : RT Φ m s.T a.tmps)
    (hI : Inv Φ m w s.H) (hG : Glob Φg Φ₀ i₀ w₀ Φ m w) : o.wp P a w (After P Φg X fid n k Q Φ₀ i₀ w₀ o s a w Φ m) Qx := by
  unfold opR at h
  rw [hop] at h
  dsimp only at h
  split at h
  · exact h.no_fail.elim
  · rename_i args hargs
    rw [hc] at h
    dsimp only at h
    have hra := opnds_eval (a := a) hT hargs
    have hl : (c.args.map a.eval).toList = c.args.toList.map a.eval := by simp
    rcases hb with rfl | rfl
    · unfold builtinD at h
      split at h
      · rename_i hbi; cases hbi
      · rename_i hbi; cases hbi
      · rename_i kd i r _
        split at h
        · rename_i j hj
          obtain ⟨y, ys, hys, hy, hys'⟩ := hra.inv_cons
          cases hy
          refine pure_ok (x := .int kd j) ?_ (.int _ _) h hI hG
          intro w1 _
          simp only [execOp, hop, resolve, hc, Sem.run_bind, Sem.run_pure, Result.andThen_ok, invoke, builtin, Builtin.min_, hl, hys, minInt_ok hj hys' w1]
        · exact h.no_fail.elim
      · rename_i hbi; cases hbi
      · exact h.no_fail.elim
    · unfold builtinD at h
      split at h
      · rename_i hbi; cases hbi
      · rename_i hbi; cases hbi
      · rename_i hbi; cases hbi
      · rename_i kd i r _
        split at h
        · rename_i j hj
          obtain ⟨y, ys, hys, hy, hys'⟩ := hra.inv_cons
          cases hy
          refine pure_ok (x := .int kd j) ?_ (.int _ _) h hI hG
          intro w1 _
          simp only [execOp, hop, resolve, hc, Sem.run_bind, Sem.run_pure, Result.andThen_ok, invoke, builtin, Builtin.max_, hl, hys, maxInt_ok hj hys' w1]
        · exact h.no_fail.elim
      · exact h.no_fail.elim

/-! ### Type tests -/
theorem shOk_notIface {d : TypeDesc} {ti : TI} (h : ShOk d ti) (hn : ti.desc ≠ .iface) : ∀ ms, d ≠ .interface ms := by
  unfold ShOk at h
  split at h
  · obtain ⟨fs, rfl, _⟩ := h; simp
  · obtain ⟨rfl, _⟩ := h; simp
  · subst h; simp
  · subst h; simp
  · subst h; simp
  · subst h; simp
  · subst h; simp
  · rename_i he; exact absurd he hn
  · exact h.2.2
theorem op_typeAssert (hX : CtxOk P Φg X) {y : Operand} {xT u : TypeId} {ok : Bool} (hop : o.op = .typeAssert y xT u ok) (h : SatN X fid n (opR X.cfg draw s o k) Q) (hT : RT Φ m s.T a.tmps)
    (hI : Inv Φ m w s.H) (hG : Glob Φg Φ₀ i₀ w₀ Φ m w) : o.wp P a w (After P Φg X fid n k Q Φ₀ i₀ w₀ o s a w Φ m) Qx := by
  unfold opR at h
  rw [hop] at h
  dsimp only at h
  split at h
  · rename_i sz_ ag_ de_ fl_ z by_ cm_ hv hti
    obtain ⟨ii, d, hii, hsz, _, hu, hsh, hag, hz, _⟩ := hX.tab.get hti
    obtain ⟨zv, hz1, hz2⟩ := zero_ok hX.tab rfl hti rfl
    cases ok with
    | false => exact h.no_fail.elim
    | true =>
      simp only [cond_true] at h
      have hr := opnd_eval hT hv
      generalize hey : a.eval y = ey at hr
      cases hr
      refine pure_ok (x := .tuple #[zv, .bool false]) ?_ (R.tuples (by simpa using Rs.cons (R.value hz2) (Rs.cons (R.bool false) Rs.nil))) h hI hG
      intro w1 _
      simp only [execOp, hop, Instr.typeAssert, hey, Sem.run_bind, run_under hu, Result.andThen_ok]
      cases d <;> simp [hz1]
  · rename_i t v ui hv hti
    obtain ⟨ii, d, hii, hsz, _, hu, hsh, hag, hz, _⟩ := hX.tab.get hti
    have hr := opnd_eval hT hv
    generalize hey : a.eval y = ey at hr
    cases hr with
    | iface hr =>
      rename_i x
      have fin : ∀ (b : Bool) (y' : AV) (yv : Value), SatN X fid n (bif b then (bif ok then pure1 (.tuple [y', .bool true]) k else pure1 y' k)
            else (bif ok then (match ui.zero with | some z => pure1 (.tuple [z, .bool false]) k | none => .fail 150) else .fail 151)) Q → R Φ m y' yv →
          (∀ w1 : World, (b = true → (execOp a.eval o).run P w1 = .ok (.value (if ok then .tuple #[yv, .bool true] else yv)) w1) ∧
            (b = false → ok = true → ∀ zv, (zeroValue u).run P w1 = .ok zv w1 → (execOp a.eval o).run P w1 = .ok (.value (.tuple #[zv, .bool false])) w1)) →
          o.wp P a w (After P Φg X fid n k Q Φ₀ i₀ w₀ o s a w Φ m) Qx := by
        intro b y' yv h hry hrun
        cases b with
        | true =>
          simp only [cond_true] at h
          cases ok with
          | true =>
            refine pure_ok (x := .tuple #[yv, .bool true]) ?_ (R.tuples (by simpa using Rs.cons hry (Rs.cons (R.bool true) Rs.nil))) h hI hG
            intro w1 _
            have := (hrun w1).1 rfl
            simpa using this
          | false =>
            refine pure_ok (x := yv) ?_ hry h hI hG
            intro w1 _
            have := (hrun w1).1 rfl
            simpa using this
        | false =>
          simp only [cond_false] at h
          cases ok with
          | true =>
            simp only [cond_true] at h
            split at h
            · rename_i z hzz
              obtain ⟨zv, hz1, hz2⟩ := zero_ok hX.tab rfl hti hzz
              refine pure_ok (x := .tuple #[zv, .bool false]) ?_ (R.tuples (by simpa using Rs.cons (R.value hz2) (Rs.cons (R.bool false) Rs.nil))) h hI hG
              intro w1 _
              exact (hrun w1).2 rfl rfl zv (hz1 w1)
            · exact h.no_fail.elim
          | false => exact h.no_fail.elim
      split at h
      · rename_i hd
        obtain ⟨ms, rfl⟩ := shOk_iface hsh hd
        cases h with
        | ta hta h =>
          rename_i b
          (try dsimp only at h)
          obtain ⟨ms', i, h1, h2, h3⟩ := hX.ta _ _ _ hta
          rw [hu] at h1
          cases h1
          refine fin b _ (.iface t x) h (.iface hr) fun w1 => ⟨fun hb => ?_, fun hb hok zv hzv => ?_⟩
          · simp only [execOp, hop, Instr.typeAssert, hey, Sem.run_bind, run_under hu, Result.andThen_ok, run_info h2, h3.1 hb]
            cases ok <;> simp
          · have hne : Instr.missingMethod ms i.methods ≠ none := fun h => by rw [h3.2 h] at hb; cases hb
            obtain ⟨mm, hmm⟩ := Option.ne_none_iff_exists'.1 hne
            simp only [execOp, hop, Instr.typeAssert, hey, Sem.run_bind, run_under hu, Result.andThen_ok, run_info h2, hmm, hok]
            simp [hzv]
      · rename_i hd
        have hni := shOk_notIface hsh hd
        refine fin (Nat.beq t u) _ x h hr fun w1 => ⟨fun hb => ?_, fun hb hok zv hzv => ?_⟩
        · rw [Nat.beq_eq] at hb
          subst hb
          simp only [execOp, hop, Instr.typeAssert, hey, Sem.run_bind, run_under hu, Result.andThen_ok]
          cases ok <;> cases d <;> simp <;> exact absurd rfl (hni _)
        · have hne : t ≠ u := fun e => by rw [e] at hb; simp at hb
          simp only [execOp, hop, Instr.typeAssert, hey, Sem.run_bind, run_under hu, Result.andThen_ok, hok]
          cases d <;> simp [hne, hzv] <;> exact absurd rfl (hni _)
  · exact h.no_fail.elim
end
end Go.Ab
