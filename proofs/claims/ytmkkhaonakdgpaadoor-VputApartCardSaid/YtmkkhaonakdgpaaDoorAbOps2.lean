/- Operations that only reckon, more of them. -/
import Derived.Test.YtmkkhaonakdgpaaDoorAbOps
namespace Go.Ab
open Go
section
variable {Φg : Phi} {α : Type} {X : Ctx} {fid : FuncId} {P : Program} {n : Nat} {draw : Bool} {s : St} {o : Oper} {k : Script → DT α} {Q : α → Prop} {a : Act} {w w₀ : World}
  {Φ Φ₀ : Phi} {m i₀ : LMap} {Qx : Exit → Act → World → Prop} {tab : Tab}

theorem shOk_slice {d : TypeDesc} {ti : TI} {e : TypeId} (h : ShOk d ti) (he : ti.desc = .slice e) : d = .slice e := by
  unfold ShOk at h; rw [he] at h; exact h
theorem shOk_string {d : TypeDesc} {ti : TI} (h : ShOk d ti) (he : ti.desc = .string) : d = .string := by
  unfold ShOk at h; rw [he] at h; exact h
theorem shOk_int {d : TypeDesc} {ti : TI} {k : IntKind} (h : ShOk d ti) (he : ti.desc = .int k) : d = .int k := by
  unfold ShOk at h; rw [he] at h; exact h
theorem shOk_array {d : TypeDesc} {ti : TI} {n : Nat} {e : TypeId} (h : ShOk d ti) (he : ti.desc = .array n e) : d = .array n e := by
  unfold ShOk at h; rw [he] at h; exact h.1

/-- A field of a table's row is a field of the struct. -/
theorem field_ok (hP : TabOK P tab) {cfg : Cfg} (hc : cfg.tab = tab) {t : TypeId} {f off : Nat} {ft : TypeId} (h : fieldOf cfg t f = some (off, ft)) (hs : ∀ ti, tab.get t = some ti → ti.desc = .struct) :
    ∃ fs fl, P.underlying t = some (.struct fs) ∧ fs[f]? = some fl ∧ fl.offset = off ∧ fl.type = ft := by
  unfold fieldOf at h
  split at h
  · rename_i ti hti
    obtain ⟨i, d, hi, hsz, _, hu, hsh, hag, _⟩ := hP.get (hc ▸ hti)
    unfold ShOk at hsh
    rw [hs ti (hc ▸ hti)] at hsh
    obtain ⟨fs, rfl, hfs⟩ := hsh
    obtain ⟨fl, h1, h2, h3⟩ := hfs f off ft h
    exact ⟨fs, fl, hu, h1, h2, h3⟩
  · cases h

theorem op_fieldAddr (hP : TabOK P tab) (hX : X.cfg.tab = tab) {t : TypeId} {y : Operand} {f : Nat} (hop : o.op = .fieldAddr t y f) (h : SatN X fid n (opR X.cfg draw s o k) Q) (hT : RT Φ m s.T a.tmps)
    (hI : Inv Φ m w s.H) (hG : Glob Φg Φ₀ i₀ w₀ Φ m w) : o.wp P a w (After P Φg X fid n k Q Φ₀ i₀ w₀ o s a w Φ m) Qx := by
  unfold opR at h
  rw [hop] at h
  dsimp only at h
  split at h
  · rename_i ti hti
    cases hst : ti.desc with
    | struct =>
      rw [hst] at h
      dsimp only at h
      have hss : ∀ ti, tab.get t = some ti → ti.desc = .struct := fun ti' h' => by rw [hX] at hti; rw [hti] at h'; cases h'; exact hst
      have plain : ∀ (off : Nat) (ft : TypeId) (b c : Nat), fieldOf X.cfg t f = some (off, ft) → hasCells X.cfg ft = true → a.eval y = .pointer (some ⟨b, c, none⟩) → ∀ w : World,
          (execOp a.eval o).run P w = .ok (.value (.pointer (some ⟨b, c + off, none⟩))) w := by
        intro off ft b c hf hcl hey w
        obtain ⟨fs, fl, hu, h1, h2, h3⟩ := field_ok hP hX hf hss
        unfold hasCells at hcl
        split at hcl
        · rename_i tf htf
          obtain ⟨i', d', hi', hsz', _⟩ := hP.get (hX ▸ htf)
          have hpos : 0 < tf.sz := by simpa using hcl
          simp only [execOp, hop, Instr.fieldAt, hey, Sem.run_bind, run_under hu, Result.andThen_ok]
          simp only [h1, Sem.run_bind, Instr.sureAddr, Sem.run_pure, Result.andThen_ok, fieldPlace, h3, run_size hi']
          rw [if_neg (by omega), h2]
          simp [addr_add]
        · cases hcl
      split at h
      · rename_i off ft st i oo hf hr
        have hre := opnd_eval hT hr
        cases hcl : hasCells X.cfg ft with
        | false => rw [hcl] at h; exact h.no_fail.elim
        | true =>
          rw [hcl] at h
          generalize hey : a.eval y = ey at hre
          cases hre with
          | ref hm =>
            refine pure_ok ?_ (.ref (o := oo + off) hm) h hI hG
            intro w1 _
            rw [plain off ft _ _ hf hcl hey, Nat.add_assoc]
      · rename_i off ft v hf hr
        have hre := opnd_eval hT hr
        cases hcl : hasCells X.cfg ft with
        | false => rw [hcl] at h; exact h.no_fail.elim
        | true =>
          rw [hcl] at h
          simp only [cond_true] at h
          generalize hey : a.eval y = ey at hre
          cases hre with
          | cptr g h1 h2 =>
            rename_i b c
            -- the part of what does not change does not change
            unfold partD at h
            split at h
            · rename_i tf htf
              have key : ∀ v' : AV, SatN X fid n (pure1 (.cptr v') k) Q → (∀ j cc, v'.cells[j]? = some cc → v.cells[off + j]? = some cc) → o.wp P a w (After P Φg X fid n k Q Φ₀ i₀ w₀ o s a w Φ m) Qx := by
                intro v' hs hv
                refine pure_ok (fun w1 _ => plain off ft b c hf hcl hey w1) (.cptr (fun j => g (off + j)) (fun j cc hj => ?_) (fun j cc hj => ?_)) hs hI hG
                · rw [Nat.add_assoc]; exact h1 _ _ (hv j cc hj)
                · exact h2 _ _ (hv j cc hj)
              cases hag : tf.agg with
              | true =>
                rw [hag] at h
                simp only [cond_true] at h
                cases hb : (Nat.beq off 0 && Nat.beq tf.sz v.cells.length) with
                | true =>
                  rw [hb] at h
                  simp only [cond_true] at h
                  simp only [Bool.and_eq_true, Nat.beq_eq] at hb
                  obtain ⟨rfl, _⟩ := hb
                  split at h
                  · exact key _ h (fun j cc hj => by simpa using hj)
                  · exact h.no_fail.elim
                | false =>
                  rw [hb] at h
                  simp only [cond_false] at h
                  cases hb2 : Nat.ble (off + tf.sz) v.cells.length with
                  | true =>
                    rw [hb2] at h
                    simp only [cond_true, spine_eq] at h
                    refine key _ h (fun j cc hj => ?_)
                    simp only [AV.cells] at hj
                    rw [List.getElem?_take] at hj
                    split at hj
                    · rwa [List.getElem?_drop] at hj
                    · cases hj
                  | false => rw [hb2] at h; exact h.no_fail.elim
              | false =>
                rw [hag] at h
                simp only [cond_false] at h
                split at h
                · rename_i cc r hcr
                  cases hone : isOneCell cc with
                  | false => rw [hone] at h; exact h.no_fail.elim
                  | true =>
                    rw [hone] at h
                    have hone := isOneCell_cells hone
                    refine key cc h (fun j c' hj => ?_)
                    rw [hone] at hj
                    cases j with
                    | zero => simp at hj; subst hj; have : (v.cells.drop off)[0]? = some cc := by rw [hcr]; rfl
                              rw [List.getElem?_drop] at this; exact this
                    | succ j => simp at hj
                · exact h.no_fail.elim
            · exact h.no_fail.elim
      · exact h.no_fail.elim
    | _ => rw [hst] at h; exact h.no_fail.elim
  · exact h.no_fail.elim
end
end Go.Ab
