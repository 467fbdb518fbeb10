/- Operations that only reckon: numbers, tests, conversions, values built. -/
import Derived.Test.YtmkkhaonakdgpaaDoorAbOps4
import Derived.Laws.StructEq
import Derived.ChangeKeysEq
namespace Go.Ab
open Go
section
variable {Φg : Phi} {α : Type} {X : Ctx} {fid : FuncId} {P : Program} {n : Nat} {draw : Bool} {s : St} {o : Oper} {k : Script → DT α} {Q : α → Prop} {a : Act} {w w₀ : World}
  {Φ Φ₀ : Phi} {m i₀ : LMap} {Qx : Exit → Act → World → Prop} {tab : Tab}

theorem op_unOp {op : UnOp} {t : TypeId} {y : Operand} (hop : o.op = .unOp op t y) (h : SatN X fid n (opR X.cfg draw s o k) Q) (hT : RT Φ m s.T a.tmps)
    (hI : Inv Φ m w s.H) (hG : Glob Φg Φ₀ i₀ w₀ Φ m w) : o.wp P a w (After P Φg X fid n k Q Φ₀ i₀ w₀ o s a w Φ m) Qx := by
  unfold opR at h
  rw [hop] at h
  dsimp only at h
  split at h
  · rename_i b hb
    have hr := opnd_eval hT hb
    generalize he : a.eval y = e at hr
    cases hr
    refine pure_ok (x := .bool (!b)) ?_ (.bool _) h hI hG
    intro w1 _
    simp [execOp, hop, he, Op.unary]
  · rename_i kd i hb
    have hr := opnd_eval hT hb
    generalize he : a.eval y = e at hr
    cases hr
    refine pure_ok (x := .int kd (kd.wrap (0 - i))) ?_ (.int _ _) h hI hG
    intro w1 _
    simp [execOp, hop, he, Op.unary, Op.intArith]
  · exact h.no_fail.elim

/-- Whole numbers. -/
theorem intD_ok {op : BinOp} {kd : IntKind} {x y : Int} {t : TypeId} {q : AV → DT α} (hs : op ≠ .shl ∧ op ≠ .shr) (h : SatN X fid n (intD op kd x y q) Q) :
    ∃ v x', SatN X fid n (q v) Q ∧ R Φ m v x' ∧ ∀ w : World, (binOp op t (.int kd x) (.int kd y)).run P w = .ok x' w := by
  unfold intD at h
  split at h
  · exact ⟨_, _, h, .int _ _, fun w => by simp [binOp, Op.intArith]⟩
  · exact ⟨_, _, h, .int _ _, fun w => by simp [binOp, Op.intArith]⟩
  · exact ⟨_, _, h, .int _ _, fun w => by simp [binOp, Op.intArith]⟩
  · obtain ⟨hc, h⟩ := h.node_inv
    have hc := of_decide_eq_true hc
    exact ⟨_, _, h, .int _ _, fun w => by simp [binOp, Op.intDiv, hc]⟩
  · obtain ⟨hc, h⟩ := h.node_inv
    have hc := of_decide_eq_true hc
    exact ⟨_, _, h, .int _ _, fun w => by simp [binOp, Op.intDiv, hc]⟩
  · exact ⟨_, _, h, .int _ _, fun w => by simp [binOp, Op.intBits]⟩
  · exact ⟨_, _, h, .int _ _, fun w => by simp [binOp, Op.intBits]⟩
  · exact ⟨_, _, h, .int _ _, fun w => by simp [binOp, Op.intBits]⟩
  · exact ⟨_, _, h, .int _ _, fun w => by simp [binOp, Op.intBits]⟩
  · exact ⟨_, .bool (decide (x = y)), h, .bool _, fun w => by simp [binOp, Op.intCmp]; rfl⟩
  · exact ⟨_, .bool (!decide (x = y)), h, .bool _, fun w => by simp [binOp, Op.intCmp]; rfl⟩
  · exact ⟨_, _, h, .bool _, fun w => by simp [binOp, Op.intCmp]⟩
  · exact ⟨_, _, h, .bool _, fun w => by simp [binOp, Op.intCmp]⟩
  · exact ⟨_, _, h, .bool _, fun w => by simp [binOp, Op.intCmp]⟩
  · exact ⟨_, _, h, .bool _, fun w => by simp [binOp, Op.intCmp]⟩
  · exact h.no_fail.elim

theorem bytesLt_eq : ∀ (x y : List UInt8), bytesLt x y = Op.bytesLess x y
  | _, [] => by unfold bytesLt Op.bytesLess; rfl
  | [], _ :: _ => by unfold bytesLt Op.bytesLess; rfl
  | a :: x, b :: y => by unfold bytesLt Op.bytesLess; rw [bytesLt_eq x y]

theorem shOk_bool {d : TypeDesc} {ti : TI} (h : ShOk d ti) (he : ti.desc = .bool) : d = .bool := by
  unfold ShOk at h; rw [he] at h; exact h
theorem shOk_iface {d : TypeDesc} {ti : TI} (h : ShOk d ti) (he : ti.desc = .iface) : ∃ ms, d = .interface ms := by
  unfold ShOk at h; rw [he] at h; exact h
theorem shOk_pointer {d : TypeDesc} {ti : TI} {e : TypeId} (h : ShOk d ti) (he : ti.desc = .pointer e) : d = .pointer e := by
  unfold ShOk at h; rw [he] at h; exact h

theorem equal_of {t : TypeId} {u v : Value} {c : Bool} (h : ∀ d, (Op.equalIn (d + 1) t u v).run P w = .ok c w) : (Op.equal t u v).run P w = .ok c w := h 9999
section
variable {t : TypeId} (d : Nat)
theorem eqIn_bool (hu : P.underlying t = some .bool) (a b : Bool) : (Op.equalIn (d + 1) t (.bool a) (.bool b)).run P w = .ok (decide (a = b)) w := by
  rw [Op.equalIn]; simp only [Sem.run_bind, run_under hu, Result.andThen_ok, Sem.run_pure]; rfl
theorem eqIn_nilnil {ms : Array (String × TypeId)} (hu : P.underlying t = some (.interface ms)) : (Op.equalIn (d + 1) t .nilIface .nilIface).run P w = .ok true w := by
  rw [Op.equalIn]; simp only [Sem.run_bind, run_under hu, Result.andThen_ok, Sem.run_pure]
theorem eqIn_nili {ms : Array (String × TypeId)} (hu : P.underlying t = some (.interface ms)) (u : TypeId) (x : Value) : (Op.equalIn (d + 1) t .nilIface (.iface u x)).run P w = .ok false w := by
  rw [Op.equalIn]; simp only [Sem.run_bind, run_under hu, Result.andThen_ok, Sem.run_pure]
theorem eqIn_inil {ms : Array (String × TypeId)} (hu : P.underlying t = some (.interface ms)) (u : TypeId) (x : Value) : (Op.equalIn (d + 1) t (.iface u x) .nilIface).run P w = .ok false w := by
  rw [Op.equalIn]; simp only [Sem.run_bind, run_under hu, Result.andThen_ok, Sem.run_pure]
theorem eqIn_pnil {e : TypeId} (hu : P.underlying t = some (.pointer e)) (b : Option Addr) : (Op.equalIn (d + 1) t (.pointer none) (.pointer b)).run P w = .ok b.isNone w := by
  rw [Op.equalIn]; simp only [Sem.run_bind, run_under hu, Result.andThen_ok, Sem.run_pure]
theorem eqIn_nilp {e : TypeId} (hu : P.underlying t = some (.pointer e)) (b : Addr) : (Op.equalIn (d + 1) t (.pointer (some b)) (.pointer none)).run P w = .ok false w := by
  rw [Op.equalIn]; simp only [Sem.run_bind, run_under hu, Result.andThen_ok, Sem.run_pure]
theorem eqIn_snil {e : TypeId} (hu : P.underlying t = some (.slice e)) (b : Option Addr) (x y z z' : Nat) : (Op.equalIn (d + 1) t (.slice b x y) (.slice none z z')).run P w = .ok b.isNone w := by
  cases b with
  | none => rw [Op.equalIn]; simp only [Sem.run_bind, run_under hu, Result.andThen_ok, Sem.run_pure]
  | some b => rw [Op.equalIn]; simp only [Sem.run_bind, run_under hu, Result.andThen_ok, Sem.run_pure]; rfl
end
/-- An operand that is the literal nil. -/
theorem nil_const {c : Value} (h : ofValue c = some .nils) : c = .slice none 0 0 := by
  unfold ofValue at h
  split at h
  · split at h <;> cases h
  · unfold ofLit at h
    split at h <;> simp_all

theorem beqd (x y : List UInt8) : (x == y) = decide (x = y) := by rw [Bool.eq_iff_iff]; simp

/-- A variable of a type: of several cells, or one. -/
def Var (Φ : Phi) (m : LMap) (agg : Bool) (xs : List AV) (x : Value) : Prop :=
  match agg with
  | true => ∃ arr : Array Value, x = .agg arr ∧ Rs Φ m xs arr.toList
  | false => ∃ u r, xs = u :: r ∧ R Φ m u x
theorem part_run (hP : TabOK P tab) {cfg : Cfg} (hc : cfg.tab = tab) {t : TypeId} {ti : TI} (hti : cfg.tab.get t = some ti) {xs : List AV} {arr : Array Value} {o : Nat} (hl : Rs Φ m xs arr.toList) (_hle : o + ti.sz ≤ xs.length)
    (hne : (xs.drop o).take ti.sz ≠ [] ∨ ti.agg = true) : ∃ v, (∀ w : World, (part t arr o).run P w = .ok v w) ∧ Var Φ m ti.agg ((xs.drop o).take ti.sz) v := by
  obtain ⟨i, d, hi, hsz, _, hu, hsh, hag, _⟩ := hP.get (hc ▸ hti)
  cases hagg : ti.agg with
  | true =>
    refine ⟨.agg (arr.extract o (o + ti.sz)), fun w => ?_, _, rfl, ?_⟩
    · unfold part
      rw [Sem.run_bind, run_agg hu (by rw [← hag, hagg]) w, Result.andThen_ok]
      simp [run_size hi, hsz]
    · rw [Array.toList_extract, List.extract_eq_take_drop, Nat.add_sub_cancel_left]
      exact (hl.drop o).take ti.sz
  | false =>
    rcases hne with hne | hne
    · cases hd : (xs.drop o).take ti.sz with
      | nil => exact absurd hd hne
      | cons u r =>
        have h0 : ((xs.drop o).take ti.sz)[0]? = some u := by rw [hd]; rfl
        rw [List.getElem?_take] at h0
        split at h0
        · rw [List.getElem?_drop] at h0
          obtain ⟨x, hx, hr⟩ := hl.2 _ u h0
          have hx' : arr[o]? = some x := by simpa using hx
          refine ⟨x, fun w => ?_, u, r, rfl, hr⟩
          unfold part
          rw [Sem.run_bind, run_agg hu (by rw [← hag, hagg]) w, Result.andThen_ok]
          simp [hx']
        · cases h0
    · rw [hagg] at hne; cases hne

theorem eqT_nonempty {cfg : Cfg} {n : Nat} {t : TypeId} {ti : TI} {xs ys : List AV} {c : Bool} (hti : cfg.tab.get t = some ti) (h : eqT cfg n t xs ys = some c) : (xs ≠ [] ∧ ys ≠ []) ∨ ti.desc = .struct ∨ ∃ l e, ti.desc = .array l e := by
  cases n with
  | zero => cases h
  | succ n =>
    simp only [eqT, hti] at h
    split at h
    · rename_i hd; exact .inr (.inl hd)
    · rename_i l e hd; exact .inr (.inr ⟨l, e, hd⟩)
    all_goals first
      | (split at h
         · exact .inl ⟨by simp, by simp⟩
         · cases h)
      | cases h

/-- **Are two variables alike?** -/
theorem eqT_ok (hP : TabOK P tab) {cfg : Cfg} (hc : cfg.tab = tab) : ∀ (n : Nat) {t : TypeId} {ti : TI} {xs ys : List AV} {c : Bool} {u v : Value}, cfg.tab.get t = some ti → eqT cfg n t xs ys = some c → Var Φ m ti.agg xs u → Var Φ m ti.agg ys v →
    ∀ d, n ≤ d → ∀ w : World, (Op.equalIn d t u v).run P w = .ok c w
  | 0, t, ti, xs, ys, c, u, v, hti, h, _, _, _, _, _ => by cases h
  | n + 1, t, ti, xs, ys, c, u, v, hti, h, hu, hv, d, hd, w => by
    obtain ⟨i, de, hi, hsz, _, hund, hsh, hag, _, harr, hst⟩ := hP.get (hc ▸ hti)
    obtain ⟨d, rfl⟩ : ∃ d', d = d' + 1 := ⟨d - 1, by omega⟩
    simp only [eqT, hti] at h
    have one : (∀ fs, de ≠ .struct fs) → (∀ k e, de ≠ .array k e) → ti.agg = false := fun h1 h2 => by
      cases ha : ti.agg with
      | false => rfl
      | true =>
        rcases hag.1 ha with ⟨fs, he⟩ | ⟨k, e, he⟩
        · exact absurd he (h1 fs)
        · exact absurd he (h2 k e)
    split at h
    · -- a struct
      rename_i hde
      unfold ShOk at hsh
      rw [hde] at hsh
      obtain ⟨fs, rfl, _⟩ := hsh
      have hagg : ti.agg = true := hag.2 (.inl ⟨fs, rfl⟩)
      rw [hagg] at hu hv
      obtain ⟨xa, rfl, hxa⟩ := hu
      obtain ⟨ya, rfl, hya⟩ := hv
      cases hcmp : ti.cmp with
      | false => rw [hcmp] at h; cases h
      | true =>
        rw [hcmp] at h
        simp only [cond_true] at h
        obtain ⟨hs1, hs2, hs3⟩ := hP.eqs t ti fs (hc ▸ hti) hcmp hund
        obtain ⟨hlen, hfs⟩ := hst fs rfl
        have hfo : P.fieldsOf t = fs := by unfold Program.fieldsOf; rw [hund]
        rw [run_equalIn_struct w d t xa ya (by rw [hfo]; exact hund) hs1, hfo]
        have hmap : ti.fields = fs.toList.map fun f => (f.offset, f.type) := by
          apply List.ext_getElem?
          intro j
          rw [List.getElem?_map]
          cases hj : fs.toList[j]? with
          | none =>
            have : fs.size ≤ j := by simpa using List.getElem?_eq_none_iff.1 hj
            rw [List.getElem?_eq_none (by omega)]; rfl
          | some f =>
            obtain ⟨h1, _⟩ := hfs j f (by simpa using hj)
            rw [h1]; rfl
        rw [hmap] at h
        have hall : ∀ f ∈ fs.toList, f.name ≠ "_" := hs3
        generalize fs.toList = fl at h hall
        clear hmap hfs hlen hfo hs3
        induction fl generalizing c with
        | nil =>
          simp only [List.map_nil, eqFs, Option.some.injEq] at h
          subst h
          simp [Op.eqFields]
        | cons f r ih =>
          simp only [List.map_cons, eqFs] at h
          split at h
          · rename_i fi hfi
            cases hb : (Nat.ble (f.offset + fi.sz) xs.length && Nat.ble (f.offset + fi.sz) ys.length) with
            | false => rw [hb] at h; cases h
            | true =>
              rw [hb] at h
              simp only [cond_true] at h
              simp only [Bool.and_eq_true] at hb
              have hb1 := Nat.le_of_ble_eq_true hb.1
              have hb2 := Nat.le_of_ble_eq_true hb.2
              split at h
              · rename_i c1 hc1
                split at h
                · rename_i c2 hc2
                  simp only [Option.some.injEq] at h
                  subst h
                  have hne := eqT_nonempty hfi hc1
                  have hag2 : (fi.desc = .struct ∨ ∃ l e, fi.desc = .array l e) → fi.agg = true := fun hd2 => by
                    obtain ⟨i2, d2, hi2, _, _, _, hsh2, hag2, _⟩ := hP.get (hc ▸ hfi)
                    unfold ShOk at hsh2
                    rcases hd2 with hd2 | ⟨l2, e2, hd2⟩
                    · rw [hd2] at hsh2
                      obtain ⟨fs2, rfl, _⟩ := hsh2
                      exact hag2.2 (.inl ⟨fs2, rfl⟩)
                    · rw [hd2] at hsh2
                      obtain ⟨rfl, _⟩ := hsh2
                      exact hag2.2 (.inr ⟨l2, e2, rfl⟩)
                  obtain ⟨a, ha1, ha2⟩ := part_run hP hc hfi hxa hb1 (hne.imp (fun h => h.1) hag2)
                  obtain ⟨b, hb1', hb2'⟩ := part_run hP hc hfi hya hb2 (hne.imp (fun h => h.2) hag2)
                  have heq := eqT_ok hP hc n hfi hc1 ha2 hb2' d (by omega) w
                  have ih' := ih _ hc2 (fun g hg => hall g (List.mem_cons_of_mem _ hg))
                  simp only [Op.eqFields]
                  rw [if_pos (hall f (List.mem_cons_self ..))]
                  simp only [Sem.run_bind, ha1, hb1', heq, Result.andThen_ok]
                  cases c1 with
                  | true => simpa using ih'
                  | false => simp
                · cases h
              · cases h
          · cases h
    · -- an array
      rename_i l e hde
      unfold ShOk at hsh
      rw [hde] at hsh
      obtain ⟨rfl, _⟩ := hsh
      have hagg : ti.agg = true := hag.2 (.inr ⟨l, e, rfl⟩)
      rw [hagg] at hu hv
      obtain ⟨xa, rfl, hxa⟩ := hu
      obtain ⟨ya, rfl, hya⟩ := hv
      cases hcl : (ti.cmp && Nat.beq ti.fields.length l) with
      | false => rw [hcl] at h; cases h
      | true =>
        rw [hcl] at h
        simp only [cond_true] at h
        simp only [Bool.and_eq_true, Nat.beq_eq] at hcl
        obtain ⟨te, hte, hfe⟩ := harr l e rfl
        obtain ⟨ie, dee, hie, hsze, _, _, hshe, hage, _⟩ := hP.get hte
        have hce : P.cellsOf e = te.sz := by unfold Program.cellsOf; rw [hie]; exact hsze
        rw [run_equalIn_array w d xa ya hund hie, hce]
        have hmap : ti.fields = (List.range l).map fun j => (j * te.sz, e) := by
          apply List.ext_getElem?
          intro j
          rw [List.getElem?_map]
          by_cases hj : j < l
          · have hj2 : j < ti.fields.length := by omega
            obtain ⟨h1, h2⟩ := hfe j ti.fields[j].1 ti.fields[j].2 (by rw [List.getElem?_eq_getElem hj2])
            rw [List.getElem?_eq_getElem hj2, List.getElem?_range hj]
            simp only [Option.map_some, Option.some.injEq]
            exact Prod.ext h1 h2
          · rw [List.getElem?_eq_none (by omega), List.getElem?_eq_none (by simp; omega)]; rfl
        rw [hmap] at h
        generalize List.range l = is at h
        clear hmap
        have hfi : cfg.tab.get e = some te := hc ▸ hte
        induction is generalizing c with
        | nil =>
          simp only [List.map_nil, eqFs, Option.some.injEq] at h
          subst h
          simp [Op.eqItems]
        | cons j r ih =>
          simp only [List.map_cons, eqFs, hfi] at h
          cases hb : (Nat.ble (j * te.sz + te.sz) xs.length && Nat.ble (j * te.sz + te.sz) ys.length) with
          | false => rw [hb] at h; cases h
          | true =>
            rw [hb] at h
            simp only [cond_true] at h
            simp only [Bool.and_eq_true] at hb
            have hb1 := Nat.le_of_ble_eq_true hb.1
            have hb2 := Nat.le_of_ble_eq_true hb.2
            split at h
            · rename_i c1 hc1
              split at h
              · rename_i c2 hc2
                simp only [Option.some.injEq] at h
                subst h
                have hne := eqT_nonempty hfi hc1
                have hag2 : (te.desc = .struct ∨ ∃ l e, te.desc = .array l e) → te.agg = true := fun hd2 => by
                  unfold ShOk at hshe
                  rcases hd2 with hd2 | ⟨l2, e2, hd2⟩
                  · rw [hd2] at hshe
                    obtain ⟨fs2, rfl, _⟩ := hshe
                    exact hage.2 (.inl ⟨fs2, rfl⟩)
                  · rw [hd2] at hshe
                    obtain ⟨rfl, _⟩ := hshe
                    exact hage.2 (.inr ⟨l2, e2, rfl⟩)
                obtain ⟨a, ha1, ha2⟩ := part_run hP hc hfi hxa hb1 (hne.imp (fun h => h.1) hag2)
                obtain ⟨b, hb1', hb2'⟩ := part_run hP hc hfi hya hb2 (hne.imp (fun h => h.2) hag2)
                have heq := eqT_ok hP hc n hfi hc1 ha2 hb2' d (by omega) w
                have ih' := ih _ hc2
                simp only [Op.eqItems]
                simp only [Sem.run_bind, ha1, hb1', heq, Result.andThen_ok]
                cases c1 with
                | true => simpa using ih'
                | false => simp
              · cases h
            · cases h
    · rename_i k hde
      unfold ShOk at hsh
      rw [hde] at hsh
      subst hsh
      rw [one (by simp) (by simp)] at hu hv
      split at h
      · rename_i k1 a k2 b
        obtain ⟨_, _, he1, hr1⟩ := hu
        obtain ⟨_, _, he2, hr2⟩ := hv
        cases he1; cases he2
        cases hr1; cases hr2
        cases hk : decide (k1 = k2) with
        | false => rw [hk] at h; cases h
        | true =>
          rw [hk] at h
          obtain rfl := of_decide_eq_true hk
          cases h
          rw [run_equalIn_int w d t k1 k a b hund]
          rfl
      · cases h
    · rename_i hde
      unfold ShOk at hsh
      rw [hde] at hsh
      subst hsh
      rw [one (by simp) (by simp)] at hu hv
      split at h
      · rename_i a b
        obtain ⟨_, _, he1, hr1⟩ := hu
        obtain ⟨_, _, he2, hr2⟩ := hv
        cases he1; cases he2
        cases hr1; cases hr2
        cases h
        exact eqIn_bool d hund a b
      · cases h
    · rename_i hde
      unfold ShOk at hsh
      rw [hde] at hsh
      subst hsh
      rw [one (by simp) (by simp)] at hu hv
      split at h
      · rename_i a b
        obtain ⟨_, _, he1, hr1⟩ := hu
        obtain ⟨_, _, he2, hr2⟩ := hv
        cases he1; cases he2
        cases hr1 with
        | str h1 =>
          cases hr2 with
          | str h2 =>
            cases h
            rw [run_equalIn_string w d t _ _ hund, ByteArray.toList_eq, ByteArray.toList_eq]
            rw [show ∀ z : ByteArray, z.data.toList = z.data.toList from fun _ => rfl]
            simp only [h1, h2]
            rw [beqd]
      · cases h
    · cases h

/-- Are two alike? What the machine says, whatever of two ways is open. -/
theorem eqD_ok (hP : TabOK P tab) {cfg : Cfg} (hc : cfg.tab = tab) {cx cy : Bool} {t : TypeId} {x y : AV} {u v : Value} {f g : Operand} {q : Bool → DT α} (hs : eqShape cfg t x = true) (h : SatN X fid n (eqD cfg draw cx cy x y q) Q)
    (hnil : y = .nils → cy = true → v = .slice none 0 0) (hcx : cx = isConst f) (hcy : cy = isConst g) (hx : R Φ m x u) (hy : R Φ m y v) :
    ∃ c, SatN X fid n (q c) Q ∧ ∀ w : World, (Op.equal t u v).run P w = .ok c w ∧ (eqGuard .eql t f g u v).run P w = .ok () w ∧ (eqGuard .neq t f g u v).run P w = .ok () w := by
  unfold eqShape at hs
  split at hs
  · rename_i ti hti
    obtain ⟨ii, d, hii, hsz, _, hu, hsh, hag, _⟩ := hP.get (hc ▸ hti)
    unfold eqD at h
    split at hs
    · -- bool
      rename_i hd
      have hd := shOk_bool hsh hd
      subst hd
      cases hx
      cases y <;> try exact h.no_fail.elim
      cases hy
      exact ⟨_, h, fun w => ⟨equal_of fun d => eqIn_bool d hu _ _, by simp [eqGuard], by simp [eqGuard]⟩⟩
    · -- no error
      rename_i hd
      obtain ⟨ms, hd⟩ := shOk_iface hsh hd
      subst hd
      cases hx
      cases y <;> try exact h.no_fail.elim
      · cases hy
        cases hcc : (cx || cy) with
        | false => rw [hcc] at h; exact h.no_fail.elim
        | true =>
          rw [hcc] at h
          rw [hcx, hcy] at hcc
          have hg : eqGuard .eql t f g .nilIface .nilIface = pure () ∧ eqGuard .neq t f g .nilIface .nilIface = pure () := by
            cases f <;> cases g <;> first | exact ⟨rfl, rfl⟩ | simp [isConst] at hcc
          exact ⟨true, h, fun w => ⟨equal_of fun d => eqIn_nilnil d hu, by rw [hg.1]; rfl, by rw [hg.2]; rfl⟩⟩
      · cases hy
        exact ⟨false, h, fun w => ⟨equal_of fun d => eqIn_nili d hu _ _, by simp [eqGuard], by simp [eqGuard]⟩⟩
    · rename_i tx vx hd
      obtain ⟨ms, hd⟩ := shOk_iface hsh hd
      subst hd
      cases hx with
      | @iface _ _ _ xv hxv =>
      cases y <;> try exact h.no_fail.elim
      · cases hy
        exact ⟨false, h, fun w => ⟨equal_of fun d => eqIn_inil d hu _ _, by simp [eqGuard], by simp [eqGuard]⟩⟩
      · rename_i ty vy
        cases hy with
        | @iface _ _ _ yv hyv =>
        dsimp only at h
        cases htt : Nat.beq tx ty with
        | false =>
          rw [htt] at h
          have hne : tx ≠ ty := fun he => by rw [he] at htt; simp at htt
          refine ⟨false, h, fun w => ⟨equal_of fun d => ?_, by simp [eqGuard], by simp [eqGuard]⟩⟩
          rw [Op.equalIn]
          simp only [Sem.run_bind, run_under hu, Result.andThen_ok]
          rw [if_pos (by simpa using hne)]; rfl
        | true =>
          rw [htt] at h
          rw [Nat.beq_eq] at htt
          subst htt
          simp only [cond_true] at h
          split at h
          · rename_i c hci
            unfold eqI at hci
            split at hci
            · rename_i te hte
              cases hcmp : te.cmp with
              | false => rw [hcmp] at hci; cases hci
              | true =>
              rw [hcmp] at hci
              simp only [cond_true] at hci
              obtain ⟨ic, hic, hicc⟩ := hP.cmp _ _ (hc ▸ hte) hcmp
              have key : ∀ w : World, (Op.equalIn 9999 tx xv yv).run P w = .ok c w := by
                cases hag' : te.agg with
                | true =>
                  rw [hag'] at hci
                  simp only [cond_true] at hci
                  split at hci
                  · obtain ⟨xa, rfl, hxa⟩ := hxv.agg_inv
                    obtain ⟨ya, rfl, hya⟩ := hyv.agg_inv
                    exact fun w => eqT_ok hP hc 8 (Φ := Φ) (m := m) hte hci (by rw [hag']; exact ⟨_, rfl, hxa⟩) (by rw [hag']; exact ⟨_, rfl, hya⟩) 9999 (by omega) w
                  · cases hci
                | false =>
                  rw [hag'] at hci
                  simp only [cond_false] at hci
                  cases h1 : (isOneCell vx && isOneCell vy) with
                  | false => rw [h1] at hci; cases hci
                  | true =>
                    rw [h1] at hci
                    exact fun w => eqT_ok hP hc 8 (Φ := Φ) (m := m) hte hci (by rw [hag']; exact ⟨_, _, rfl, hxv⟩) (by rw [hag']; exact ⟨_, _, rfl, hyv⟩) 9999 (by omega) w
              refine ⟨c, h, fun w => ⟨?_, by simp [eqGuard], by simp [eqGuard]⟩⟩
              show (Op.equalIn (9999 + 1) t _ _).run P w = _
              rw [Op.equalIn]
              simp only [Sem.run_bind, run_under hu, Result.andThen_ok, ne_eq, not_true_eq_false, if_false, typeInfo, run_program, hic, Sem.run_pure, hicc, Bool.not_true, Bool.false_eq_true]
              exact key w
            · cases hci
          · exact h.no_fail.elim
    · rename_i hd
      have hd := shOk_pointer hsh hd
      subst hd
      cases hx
      cases y <;> try exact h.no_fail.elim
      all_goals cases hy
      all_goals exact ⟨_, h, fun w => ⟨equal_of fun d => eqIn_pnil d hu _, by simp [eqGuard], by simp [eqGuard]⟩⟩
    · rename_i hd
      have hd := shOk_pointer hsh hd
      subst hd
      cases hx
      cases y <;> try exact h.no_fail.elim
      all_goals cases hy
      all_goals exact ⟨_, h, fun w => ⟨equal_of fun d => eqIn_nilp d hu _, by simp [eqGuard], by simp [eqGuard]⟩⟩
    · rename_i hd
      have hd := shOk_pointer hsh hd
      subst hd
      cases hx
      cases y <;> try exact h.no_fail.elim
      all_goals cases hy
      all_goals exact ⟨_, h, fun w => ⟨equal_of fun d => eqIn_nilp d hu _, by simp [eqGuard], by simp [eqGuard]⟩⟩
    · rename_i xs hd
      have hd := shOk_slice hsh hd
      subst hd
      cases y <;> try exact h.no_fail.elim
      cases draw with
      | true => exact h.no_fail.elim
      | false =>
      cases hcc : cy with
      | false => rw [hcc] at h; exact h.no_fail.elim
      | true =>
      rw [hcc] at h
      obtain rfl := hnil rfl hcc
      simp only [Bool.not_true, Bool.or_false, cond_false] at h
      have both : ∀ b l c, u = .slice b l c → ∀ w : World, (Op.equal t u (.slice none 0 0)).run P w = .ok b.isNone w ∧ eqGuard .eql t f g u (.slice none 0 0) = pure () ∧ eqGuard .neq t f g u (.slice none 0 0) = pure () := by
        rintro b l c rfl w
        exact ⟨equal_of fun d => eqIn_snil d hu _ _ _ _ _, by simp [eqGuard], by simp [eqGuard]⟩
      cases h with
      | nodeT hc h =>
        cases h with
        | amb ha hb =>
          cases hx with
          | tree0 =>
            rename_i b cap
            cases b with
            | none => exact ⟨true, ha, fun w => ⟨(both _ _ _ rfl w).1, by rw [(both _ _ _ rfl w).2.1]; rfl, by rw [(both _ _ _ rfl w).2.2]; rfl⟩⟩
            | some b => exact ⟨false, hb, fun w => ⟨(both _ _ _ rfl w).1, by rw [(both _ _ _ rfl w).2.1]; rfl, by rw [(both _ _ _ rfl w).2.2]; rfl⟩⟩
          | tree esz fn g1 g2 g3 g4 g5 =>
            exact ⟨false, hb, fun w => ⟨(both _ _ _ rfl w).1, by rw [(both _ _ _ rfl w).2.1]; rfl, by rw [(both _ _ _ rfl w).2.2]; rfl⟩⟩
      | nodeF hc h =>
        cases hx with
        | tree0 => cases hc
        | tree esz fn g1 g2 g3 g4 g5 =>
          exact ⟨false, h, fun w => ⟨(both _ _ _ rfl w).1, by rw [(both _ _ _ rfl w).2.1]; rfl, by rw [(both _ _ _ rfl w).2.2]; rfl⟩⟩
    · rename_i hd
      have hd := shOk_slice hsh hd
      subst hd
      cases y <;> try exact h.no_fail.elim
      cases draw with
      | true => exact h.no_fail.elim
      | false =>
      cases hcc : cy with
      | false => rw [hcc] at h; exact h.no_fail.elim
      | true =>
      rw [hcc] at h
      obtain rfl := hnil rfl hcc
      simp only [Bool.not_true, Bool.or_false, cond_false] at h
      cases hx with
      | nils =>
        rename_i b
        cases h with
        | amb ha hb =>
          cases b with
          | none => exact ⟨true, ha, fun w => ⟨equal_of fun d => eqIn_snil d hu _ _ _ _ _, by simp [eqGuard], by simp [eqGuard]⟩⟩
          | some b => exact ⟨false, hb, fun w => ⟨equal_of fun d => eqIn_snil d hu _ _ _ _ _, by simp [eqGuard], by simp [eqGuard]⟩⟩
    · rename_i st lo len hd
      have hd := shOk_slice hsh hd
      subst hd
      cases y <;> try exact h.no_fail.elim
      cases draw with
      | true => exact h.no_fail.elim
      | false =>
      cases hcc : cy with
      | false => rw [hcc] at h; exact h.no_fail.elim
      | true =>
      rw [hcc] at h
      obtain rfl := hnil rfl hcc
      simp only [Bool.not_true, Bool.or_false, cond_false] at h
      cases h with
      | nodeT hc h =>
        cases h with
        | amb ha hb =>
          cases hx with
          | sref0 =>
            rename_i b
            cases b with
            | none => exact ⟨true, ha, fun w => ⟨equal_of fun d => eqIn_snil d hu _ _ _ _ _, by simp [eqGuard], by simp [eqGuard]⟩⟩
            | some b => exact ⟨false, hb, fun w => ⟨equal_of fun d => eqIn_snil d hu _ _ _ _ _, by simp [eqGuard], by simp [eqGuard]⟩⟩
          | sref hm g1 g2 g3 => exact ⟨false, hb, fun w => ⟨equal_of fun d => eqIn_snil d hu _ _ _ _ _, by simp [eqGuard], by simp [eqGuard]⟩⟩
      | nodeF hc h =>
        cases hx with
        | sref0 => cases hc
        | sref hm g1 g2 g3 => exact ⟨false, h, fun w => ⟨equal_of fun d => eqIn_snil d hu _ _ _ _ _, by simp [eqGuard], by simp [eqGuard]⟩⟩
    · cases hs
  · cases hs

theorem op_binOp (hP : TabOK P tab) (hX : X.cfg.tab = tab) {op : BinOp} {t t' : TypeId} {f g : Operand} (hop : o.op = .binOp op t f g t') (h : SatN X fid n (opR X.cfg draw s o k) Q) (hT : RT Φ m s.T a.tmps)
    (hI : Inv Φ m w s.H) (hG : Glob Φg Φ₀ i₀ w₀ Φ m w) : o.wp P a w (After P Φg X fid n k Q Φ₀ i₀ w₀ o s a w Φ m) Qx := by
  unfold opR at h
  rw [hop] at h
  dsimp only at h
  split at h
  · rename_i x y hx hy
    have hrx := opnd_eval hT hx
    have hry := opnd_eval hT hy
    have hnil : y = .nils → isConst g = true → a.eval g = .slice none 0 0 := fun h1 h2 => by
      cases g <;> simp [isConst] at h2
      subst h1
      exact nil_const hy
    generalize heu : a.eval f = u at hrx
    generalize hev : a.eval g = v at hry hnil
    have run : ∀ {rd : Acc} x', (∀ w : World, (eqGuard op t f g u v).run P w = .ok () w) → (∀ w : World, (binOp op t u v).run P w = .ok x' w) → ∀ w1, KeepOn Φ m rd w w1 → (execOp a.eval o).run P w1 = .ok (.value x') w1 := fun x' h1 h2 w _ => by
      simp only [execOp, hop, heu, hev, Sem.run_bind, h1, Result.andThen_ok, h2, Sem.run_pure]
    unfold binD at h
    split at h
    · -- numbers
      rename_i kd i kd' j
      cases hrx
      cases hry
      have hg : ∀ op, ∀ w : World, (eqGuard op t f g (.int kd i) (.int kd' j)).run P w = .ok () w := fun op w => by cases op <;> simp [eqGuard]
      split at h
      · obtain ⟨hc, h⟩ := h.node_inv
        have hc := of_decide_eq_true hc
        refine pure_ok (run _ (hg _) fun w => ?_) (.int _ _) h hI hG
        simp only [binOp, Op.shift]
        rw [if_neg (by omega)]
        rfl
      · obtain ⟨hc, h⟩ := h.node_inv
        have hc := of_decide_eq_true hc
        refine pure_ok (run _ (hg _) fun w => ?_) (.int _ _) h hI hG
        simp only [binOp, Op.shift]
        rw [if_neg (by omega)]
        rfl
      · rename_i h1 h2
        cases hk : decide (kd = kd') with
        | false => rw [hk] at h; exact h.no_fail.elim
        | true =>
          rw [hk] at h
          simp only [cond_true] at h
          obtain rfl := of_decide_eq_true hk
          obtain ⟨v, x', g1, g2, g3⟩ := intD_ok (P := P) (Φ := Φ) (m := m) (t := t) ⟨fun e => h1 e, fun e => h2 e⟩ h
          exact pure_ok (run _ (hg _) g3) g2 g1 hI hG
    · -- texts
      rename_i sa sb
      cases hrx with
      | str hsa =>
      rename_i xa
      cases hry with
      | str hsb =>
      rename_i xb
      have hg : ∀ op, ∀ w : World, (eqGuard op t f g (.string xa) (.string xb)).run P w = .ok () w := fun op w => by cases op <;> simp [eqGuard]
      have ea : xa.toList = sa := by rw [ByteArray.toList_eq]; exact hsa
      have eb : xb.toList = sb := by rw [ByteArray.toList_eq]; exact hsb
      split at h
      · obtain ⟨hc, h⟩ := h.node_inv
        have hc := of_decide_eq_true hc
        have la : sa.length = xa.size := by rw [← hsa, Array.length_toList]; rfl
        have lb : sb.length = xb.size := by rw [← hsb, Array.length_toList]; rfl
        refine pure_ok (x := .string (xa ++ xb)) (run _ (hg _) fun w => ?_) (.str ?_) h hI hG
        · simp only [binOp, Op.stringOp]
          rw [if_neg (by simp only [IntKind.max_i64]; omega)]
          rfl
        · rw [ByteArray.data_append, Array.toList_append, hsa, hsb]
      · refine pure_ok (x := .bool (decide (sa = sb))) (run _ (hg _) fun w => ?_) (.bool _) h hI hG
        simp only [binOp, Op.stringOp, ea, eb, Sem.run_pure, beqd]
      · refine pure_ok (x := .bool (!decide (sa = sb))) (run _ (hg _) fun w => ?_) (.bool _) h hI hG
        simp only [binOp, Op.stringOp, ea, eb, Sem.run_pure, beqd]
      · refine pure_ok (run _ (hg _) fun w => ?_) (.bool _) h hI hG
        simp only [binOp, Op.stringOp, ea, eb, Sem.run_pure, bytesLt_eq]
      · refine pure_ok (x := .bool (bytesLt sa sb || decide (sa = sb))) (run _ (hg _) fun w => ?_) (.bool _) h hI hG
        simp only [binOp, Op.stringOp, ea, eb, Sem.run_pure, bytesLt_eq, beqd]
      · refine pure_ok (x := .bool (!(bytesLt sa sb || decide (sa = sb)))) (run _ (hg _) fun w => ?_) (.bool _) h hI hG
        simp only [binOp, Op.stringOp, ea, eb, Sem.run_pure, bytesLt_eq, beqd]
      · refine pure_ok (run _ (hg _) fun w => ?_) (.bool _) h hI hG
        simp only [binOp, Op.stringOp, ea, eb, Sem.run_pure, bytesLt_eq]
      · exact h.no_fail.elim
    · -- structs
      rename_i xs ys
      obtain ⟨xa, rfl, hxa⟩ := hrx.agg_inv
      obtain ⟨ya, rfl, hya⟩ := hry.agg_inv
      split at h
      · rename_i sz_ ag_ fl_ ze_ by_ cm_ hti
        obtain ⟨ii, de, hii, _, _, hund, hsh, hag, _⟩ := hP.get (hX ▸ hti)
        have hsh' := hsh
        obtain ⟨fs, rfl, _⟩ := hsh'
        have hagg := hag.2 (.inl ⟨fs, rfl⟩)
        have key : ∀ {c : Bool}, eqT X.cfg 8 t xs ys = some c → ∀ w : World, (Op.equalIn 10000 t (.agg xa) (.agg ya)).run P w = .ok c w ∧ ∀ op : BinOp, (eqGuard op t f g (.agg xa) (.agg ya)).run P w = .ok () w := fun {c} hc w => by
          refine ⟨eqT_ok hP hX 8 (Φ := Φ) (m := m) hti hc (by rw [hagg]; exact ⟨_, rfl, hxa⟩) (by rw [hagg]; exact ⟨_, rfl, hya⟩) 10000 (by omega) w, fun op => ?_⟩
          have hcmp : cm_ = true := by
            simp only [eqT, hti] at hc
            cases cm_ with
            | true => rfl
            | false => cases hc
          exact run_eqGuard_agg w op t f g xa ya (hP.eqs t _ fs (hX ▸ hti) hcmp hund).2.1
        split at h
        · split at h
          · rename_i c hc
            refine pure_ok (run _ (fun w => (key hc w).2 _) fun w => ?_) (.bool c) h hI hG
            rw [run_eql_struct w, (key hc w).1]; rfl
          · exact h.no_fail.elim
        · split at h
          · rename_i c hc
            refine pure_ok (run _ (fun w => (key hc w).2 _) fun w => ?_) (.bool (!c)) h hI hG
            rw [run_neq_struct w, (key hc w).1]; rfl
          · exact h.no_fail.elim
        · exact h.no_fail.elim
      · rename_i sz_ ag_ l_ e_ fl_ ze_ by_ cm_ hti
        obtain ⟨ii, de, hii, _, _, hund, hsh, hag, _⟩ := hP.get (hX ▸ hti)
        have hsh' := hsh
        obtain ⟨rfl, _⟩ := hsh'
        have hagg := hag.2 (.inr ⟨l_, e_, rfl⟩)
        have key : ∀ {c : Bool}, eqT X.cfg 8 t xs ys = some c → ∀ w : World, (Op.equalIn 10000 t (.agg xa) (.agg ya)).run P w = .ok c w ∧ ∀ op : BinOp, (eqGuard op t f g (.agg xa) (.agg ya)).run P w = .ok () w := fun {c} hc w => by
          refine ⟨eqT_ok hP hX 8 (Φ := Φ) (m := m) hti hc (by rw [hagg]; exact ⟨_, rfl, hxa⟩) (by rw [hagg]; exact ⟨_, rfl, hya⟩) 10000 (by omega) w, fun op => ?_⟩
          have hcmp : cm_ = true := by
            simp only [eqT, hti] at hc
            cases cm_ with
            | true => rfl
            | false => cases hc
          exact run_eqGuard_agg w op t f g xa ya (hP.eqa t _ l_ e_ (hX ▸ hti) hcmp hund)
        split at h
        · split at h
          · rename_i c hc
            refine pure_ok (run _ (fun w => (key hc w).2 _) fun w => ?_) (.bool c) h hI hG
            rw [run_eql_struct w, (key hc w).1]; rfl
          · exact h.no_fail.elim
        · split at h
          · rename_i c hc
            refine pure_ok (run _ (fun w => (key hc w).2 _) fun w => ?_) (.bool (!c)) h hI hG
            rw [run_neq_struct w, (key hc w).1]; rfl
          · exact h.no_fail.elim
        · exact h.no_fail.elim
      · exact h.no_fail.elim
    · -- what is alike
      rename_i hni hns _
      have nb : ∀ (w : World) c, (Op.equal t u v).run P w = .ok c w → eqShape X.cfg t x = true → (binOp .eql t u v).run P w = .ok (.bool c) w ∧ (binOp .neq t u v).run P w = .ok (.bool (!c)) w := by
        intro w c hc hs
        have h0 : ∀ kd i, u ≠ .int kd i := by
          rintro kd i rfl
          cases hrx <;> (unfold eqShape at hs; split at hs <;> (try split at hs) <;> simp_all)
        have h1 : ∀ sx, u ≠ .string sx := by
          rintro sx rfl
          cases hrx <;> (unfold eqShape at hs; split at hs <;> (try split at hs) <;> simp_all)
        have h2 : ∀ kd bb, u ≠ .float kd bb := by
          rintro kd bb rfl
          cases hrx <;> (unfold eqShape at hs; split at hs <;> (try split at hs) <;> simp_all)
        have h3 : ∀ kd bb cc, u ≠ .complex kd bb cc := by
          rintro kd bb cc rfl
          cases hrx <;> (unfold eqShape at hs; split at hs <;> (try split at hs) <;> simp_all)
        constructor
        · unfold binOp
          split <;> simp_all
        · unfold binOp
          split <;> simp_all
      split at h
      · cases hs : eqShape X.cfg t x with
        | false => rw [hs] at h; exact h.no_fail.elim
        | true =>
          rw [hs] at h
          simp only [cond_true] at h
          obtain ⟨c, g1, g2⟩ := eqD_ok (P := P) hP hX hs h hnil rfl rfl hrx hry
          exact pure_ok (run _ (fun w => (g2 w).2.1) fun w => (nb w c (g2 w).1 hs).1) (.bool _) g1 hI hG
      · cases hs : eqShape X.cfg t x with
        | false => rw [hs] at h; exact h.no_fail.elim
        | true =>
          rw [hs] at h
          simp only [cond_true] at h
          obtain ⟨c, g1, g2⟩ := eqD_ok (P := P) hP hX hs h hnil rfl rfl hrx hry
          exact pure_ok (run _ (fun w => (g2 w).2.2) fun w => (nb w c (g2 w).1 hs).2) (.bool _) g1 hI hG
      · exact h.no_fail.elim
  · exact h.no_fail.elim
end
end Go.Ab
