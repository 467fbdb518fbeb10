/- Each operation of the abstract runner is what the machine does: those that only reckon. -/
import Derived.Test.YtmkkhaonakdgpaaDoorAbRel
import Derived.Laws.Cells
import Derived.Laws.Rows
import Derived.Laws.Slices
import Derived.Laws.Entries
import Derived.Laws.Strings
namespace Go.Ab
open Go

def ShOk (d : TypeDesc) (ti : TI) : Prop :=
  match ti.desc with
  | .struct => ∃ fs, d = .struct fs ∧ ∀ (i o t : Nat), ti.fields[i]? = some (o, t) → ∃ f, fs[i]? = some f ∧ f.offset = o ∧ f.type = t
  | .array n e => d = .array n e ∧ ∀ (i o t : Nat), ti.fields[i]? = some (o, t) → t = e
  | .slice e => d = .slice e
  | .int k => d = .int k
  | .bool => d = .bool
  | .string => d = .string
  | .pointer e => d = .pointer e
  | .iface => ∃ ms, d = .interface ms
  | .other => (∀ fs, d ≠ .struct fs) ∧ (∀ n e, d ≠ .array n e) ∧ (∀ ms, d ≠ .interface ms)
/-- The runner's table of types tells of the program's. -/
structure TabOK (P : Program) (tab : Tab) : Prop where
  info : ∀ t ti, tab.get t = some ti → ∃ i d, P.info? t = some i ∧ i.size = ti.sz ∧ i.bytes = ti.bytes ∧ P.underlying t = some d ∧ ShOk d ti ∧
    (ti.agg = true ↔ (∃ fs, d = .struct fs) ∨ (∃ n e, d = .array n e)) ∧ (∀ z, ti.zero = some z → ∃ v, i.zero = some v ∧ ofValue v = some z) ∧
    (∀ n e, d = .array n e → ∃ te, tab.get e = some te ∧ ∀ (j o u : Nat), ti.fields[j]? = some (o, u) → o = j * te.sz ∧ u = e) ∧
    (∀ fs, d = .struct fs → ti.fields.length = fs.size ∧ ∀ (i : Nat) (f : Field), fs[i]? = some f → ti.fields[i]? = some (f.offset, f.type) ∧ ∃ fi, tab.get f.type = some fi)
  eqs : ∀ t ti fs, tab.get t = some ti → ti.cmp = true → P.underlying t = some (.struct fs) → P.stoodInHeld t = false ∧ P.eqGuardType P.depth t = false ∧ ∀ f ∈ fs.toList, f.name ≠ "_"
  eqa : ∀ t ti l e, tab.get t = some ti → ti.cmp = true → P.underlying t = some (.array l e) → P.eqGuardType P.depth t = false
  cmp : ∀ t ti, tab.get t = some ti → ti.cmp = true → ∃ i, P.info? t = some i ∧ i.comparable = true

section
variable {Φg : Phi} {α : Type} {X : Ctx} {fid : FuncId} {P : Program} {n : Nat} {draw : Bool} {s : St} {o : Oper} {k : Script → DT α} {Q : α → Prop} {a : Act} {w w₀ : World}
  {Φ Φ₀ : Phi} {m i₀ : LMap} {Qx : Exit → Act → World → Prop}

/-- What was read is still there. -/
def KeepOn (Φ : Phi) (m : LMap) (rd : Acc) (w w' : World) : Prop :=
  (∀ b o x, Φ b o = some x → w'.cell? ⟨b, o, none⟩ = some x) ∧ ∀ s r, (s, r) ∈ rd → ∀ b e z, m s = .at b e z → ∀ o, w'.cell? ⟨b, o, none⟩ = w.cell? ⟨b, o, none⟩
/-- What an operation does not write on stays. -/
def Stays (m : LMap) (fx : List Fx) (w w' : World) : Prop := ∀ b, b < w.heap.size → (∀ s, s ∈ fxHit fx → ∀ e z, m s ≠ .at b e z) → w'.heap[b]? = w.heap[b]?
/-- Where an operation leaves memory alone: it comes to the same wherever it reads the same. -/
def Silent (P : Program) (o : Oper) (a : Act) (Φ : Phi) (m : LMap) (sc : Script) (w w' : World) (x : Value) : Prop :=
  sc.fx = [] → w' = w ∧ ∀ w1, KeepOn Φ m sc.rd w w1 → (execOp a.eval o).run P w1 = .ok (.value x) w1

/-- What stands behind an operation. -/
def After (P : Program) (Φg : Phi) (X : Ctx) (fid : FuncId) (n : Nat) (k : Script → DT α) (Q : α → Prop) (Φ₀ : Phi) (i₀ : LMap) (w₀ : World) (o : Oper) (s : St) (a : Act) (w : World) (Φ : Phi) (m : LMap) : Act → World → Prop :=
  fun a' w' => ∃ Φ' m' sc x, SatN X fid n (k sc) Q ∧ R Φ' m' sc.v x ∧ a' = a.put o.dst x ∧ Ext Φ m Φ' m' ∧ Inv Φ' m' w' (fxApp s.H sc.fx) ∧ Glob Φg Φ₀ i₀ w₀ Φ' m' w' ∧
    Stays m sc.fx w w' ∧ Silent P o a Φ m sc w w' x

theorem KeepOn.refl {H : Heap} {rd : Acc} (hI : Inv Φ m w H) : KeepOn Φ m rd w w := ⟨hI.phi, fun _ _ _ _ _ _ _ _ => rfl⟩
theorem pure_ok {v : AV} {x : Value} {rd : Acc} (hrun : ∀ w1, KeepOn Φ m rd w w1 → (execOp a.eval o).run P w1 = .ok (.value x) w1) (hr : R Φ m v x) (hs : SatN X fid n (k ⟨v, [], rd⟩) Q)
    (hI : Inv Φ m w s.H) (hG : Glob Φg Φ₀ i₀ w₀ Φ m w) : o.wp P a w (After P Φg X fid n k Q Φ₀ i₀ w₀ o s a w Φ m) Qx := by
  unfold Oper.wp
  rw [hrun w (KeepOn.refl hI)]
  exact ⟨Φ, m, ⟨v, [], rd⟩, x, hs, hr, rfl, Ext.refl _ _, hI, hG, fun _ _ _ => rfl, fun _ => ⟨rfl, hrun⟩⟩

theorem SatN.no_fail {c : Nat} (h : SatN X fid n (.fail c : DT α) Q) : False := by cases h

theorem op_move {x : Operand} (hop : o.op = .move x) (h : SatN X fid n (opR X.cfg draw s o k) Q) (hT : RT Φ m s.T a.tmps)
    (hI : Inv Φ m w s.H) (hG : Glob Φg Φ₀ i₀ w₀ Φ m w) : o.wp P a w (After P Φg X fid n k Q Φ₀ i₀ w₀ o s a w Φ m) Qx := by
  unfold opR at h
  rw [hop] at h
  dsimp only at h
  split at h
  · rename_i v hv
    refine pure_ok (x := a.eval x) ?_ (opnd_eval hT hv) h hI hG
    intro w1 _
    simp [execOp, hop]
  · exact h.no_fail.elim
theorem op_assign {x : Operand} (hop : o.op = .assign x) (h : SatN X fid n (opR X.cfg draw s o k) Q) (hT : RT Φ m s.T a.tmps)
    (hI : Inv Φ m w s.H) (hG : Glob Φg Φ₀ i₀ w₀ Φ m w) : o.wp P a w (After P Φg X fid n k Q Φ₀ i₀ w₀ o s a w Φ m) Qx := by
  unfold opR at h
  rw [hop] at h
  dsimp only at h
  split at h
  · rename_i v hv
    refine pure_ok (x := a.eval x) ?_ (opnd_eval hT hv) h hI hG
    intro w1 _
    simp [execOp, hop]
  · exact h.no_fail.elim
theorem op_pick {c x y : Operand} (hop : o.op = .pick c x y) (h : SatN X fid n (opR X.cfg draw s o k) Q) (hT : RT Φ m s.T a.tmps)
    (hI : Inv Φ m w s.H) (hG : Glob Φg Φ₀ i₀ w₀ Φ m w) : o.wp P a w (After P Φg X fid n k Q Φ₀ i₀ w₀ o s a w Φ m) Qx := by
  unfold opR at h
  rw [hop] at h
  dsimp only at h
  split at h
  · rename_i b hb
    have hc := opnd_eval hT hb
    generalize hec : a.eval c = ec at hc
    cases hc
    cases h with
    | nodeT hb' h =>
      subst hb'
      split at h
      · rename_i v hv
        refine pure_ok (x := a.eval x) ?_ (opnd_eval hT hv) h hI hG
        intro w1 _
        simp [execOp, hop, hec, asBool]
      · exact h.no_fail.elim
    | nodeF hb' h =>
      subst hb'
      split at h
      · rename_i v hv
        refine pure_ok (x := a.eval y) ?_ (opnd_eval hT hv) h hI hG
        intro w1 _
        simp [execOp, hop, hec, asBool]
      · exact h.no_fail.elim
  · exact h.no_fail.elim

/-! ### Strict words change nothing -/
theorem spine_eq {β : Type} : ∀ (l : List AV) (k : List AV → β), spine l k = k l
  | [], _ => rfl
  | v :: r, k => by simp only [spine]; exact spine_eq r _
mutual
theorem frc_eq {β : Type} : ∀ (v : AV) (k : AV → β), frc v k = k v
  | .agg cs, k => by unfold frc; cases AV.hasRef (.agg cs) <;> simp [frcs_eq]
  | .tuple cs, k => by unfold frc; cases AV.hasRef (.tuple cs) <;> simp [frcs_eq]
  | .iface t v, k => by unfold frc; cases AV.hasRef (.iface t v) <;> simp [frc_eq v]
  | .func f as cs, k => by unfold frc; cases AV.hasRef (.func f as cs) <;> simp [frcs_eq]
  | .ref .., k => by unfold frc; simp [AV.hasRef]
  | .sref .., k => by unfold frc; simp [AV.hasRef]
  | .nils, k => by unfold frc; simp [AV.hasRef]
  | .top, k => by unfold frc; simp [AV.hasRef]
  | .raw _, k => by unfold frc; simp [AV.hasRef]
  | .bool _, k => by unfold frc; simp [AV.hasRef]
  | .int _ _, k => by unfold frc; simp [AV.hasRef]
  | .str _, k => by unfold frc; simp [AV.hasRef]
  | .nilp, k => by unfold frc; simp [AV.hasRef]
  | .nilf, k => by unfold frc; simp [AV.hasRef]
  | .nili, k => by unfold frc; simp [AV.hasRef]
  | .tree _, k => by unfold frc; simp [AV.hasRef]
  | .cptr _, k => by unfold frc; simp [AV.hasRef]
theorem frcs_eq {β : Type} : ∀ (l : List AV) (k : List AV → β), frcs l k = k l
  | [], _ => by unfold frcs; rfl
  | v :: r, k => by unfold frcs; rw [frc_eq v, frcs_eq r]
end
theorem frcB_eq {β : Type} (b : Blk) (k : Blk → β) : frcB b k = k b := by cases b <;> simp [frcB, frc_eq]
theorem frcBs_eq {β : Type} : ∀ (l : List Blk) (k : List Blk → β), frcBs l k = k l
  | [], _ => rfl
  | b :: r, k => by simp only [frcBs, frcB_eq]; exact frcBs_eq r _
theorem frcH_eq {β : Type} : ∀ (H : Heap) (k : Heap → β), frcH H k = k H
  | [], _ => rfl
  | (a, b) :: r, k => by simp only [frcH, frcB_eq]; exact frcH_eq r _
theorem frcS_eq {β : Type} : ∀ (l : List Site) (k : List Site → β), frcS l k = k l
  | [], _ => rfl
  | a :: r, k => by cases a <;> simp only [frcS] <;> exact frcS_eq r _
theorem hsetK_eq {β : Type} (s : Site) (c : Blk) : ∀ (H : Heap) (k : Heap → β), hsetK H s c k = k (hset H s c)
  | [], _ => rfl
  | (a, b) :: r, k => by
    simp only [hsetK, hset]
    cases Site.eq a s
    · simp only [cond_false]; exact hsetK_eq s c r _
    · rfl
theorem setPart_agg (l : List AV) (o : Nat) (cs : List AV) : setPart (.agg l) o cs = .agg (setCells l o cs) := rfl
theorem Fx.appK_eq {β : Type} (H : Heap) (f : Fx) (k : Heap → β) : f.appK H k = k (f.app H) := by
  cases f with
  | alloc s b => rfl
  | setBox s o cs =>
    simp only [Fx.appK, Fx.app]
    split
    · rename_i v wr _
      split
      · rw [spine_eq, hsetK_eq]; rfl
      · split
        · rw [hsetK_eq]; congr 2; unfold setPart; split <;> simp_all
        · rw [hsetK_eq]; congr 2; unfold setPart
          split
          · simp_all
          · split <;> simp_all
    · rfl
  | setVar s m v => simp only [Fx.appK, Fx.app]; split <;> simp [hsetK_eq]
  | setRow s i v => simp only [Fx.appK, Fx.app]; split <;> simp [hsetK_eq]
  | setBlk s b => simp [Fx.appK, Fx.app, hsetK_eq]
  | drop s => simp [Fx.appK, Fx.app, hsetK_eq]
  | frz s => simp only [Fx.appK, Fx.app]; split <;> simp [hsetK_eq]
  | step => rfl
theorem fxAppK_eq {β : Type} : ∀ (fx : List Fx) (H : Heap) (k : Heap → β), fxAppK H fx k = k (fxApp H fx)
  | [], _, _ => rfl
  | f :: r, H, k => by simp only [fxAppK, Fx.appK_eq, fxApp]; exact fxAppK_eq r _ k

/-! ### Reading -/
theorem TabOK.get {tab : Tab} (h : TabOK P tab) {t : TypeId} {ti : TI} (ht : tab.get t = some ti) :
    ∃ i d, P.info? t = some i ∧ i.size = ti.sz ∧ i.bytes = ti.bytes ∧ P.underlying t = some d ∧ ShOk d ti ∧
      (ti.agg = true ↔ (∃ fs, d = .struct fs) ∨ (∃ n e, d = .array n e)) ∧ (∀ z, ti.zero = some z → ∃ v, i.zero = some v ∧ ofValue v = some z) ∧
      (∀ n e, d = .array n e → ∃ te, tab.get e = some te ∧ ∀ (j o u : Nat), ti.fields[j]? = some (o, u) → o = j * te.sz ∧ u = e) ∧
      (∀ fs, d = .struct fs → ti.fields.length = fs.size ∧ ∀ (i : Nat) (f : Field), fs[i]? = some f → ti.fields[i]? = some (f.offset, f.type) ∧ ∃ fi, tab.get f.type = some fi) := h.info t ti ht
theorem run_under {t : TypeId} {d : TypeDesc} (h : P.underlying t = some d) (w : World) : (underlying t).run P w = .ok d w := by
  simp [underlying, h]
theorem run_info {t : TypeId} {i : TypeInfo} (h : P.info? t = some i) (w : World) : (typeInfo t).run P w = .ok i w := by
  simp [typeInfo, h]
theorem run_size {t : TypeId} {i : TypeInfo} (h : P.info? t = some i) (w : World) : (sizeOf t).run P w = .ok i.size w := by
  simp [sizeOf, run_info h]
theorem run_agg {t : TypeId} {d : TypeDesc} {b : Bool} (h : P.underlying t = some d) (hb : b = true ↔ (∃ fs, d = .struct fs) ∨ (∃ n e, d = .array n e)) (w : World) :
    (isAgg t).run P w = .ok b w := by
  unfold isAgg
  rw [Sem.run_bind, run_under h, Result.andThen_ok]
  cases d <;> simp_all
theorem addr_add (b o n : Nat) : Addr.add ⟨b, o, none⟩ n = ⟨b, o + n, none⟩ := by
  unfold Addr.add; split <;> simp_all

/-- Cells that lie from an address on. -/
def Lies (Φ : Phi) (m : LMap) (C : Phi) (b off : Nat) (l : List AV) : Prop := ∀ j c, l[j]? = some c → ∃ x, C b (off + j) = some x ∧ R Φ m c x
/-- What a block's cells are in a world. -/
def cellsOf (w : World) : Phi := fun b o => w.cell? ⟨b, o, none⟩
theorem Lies.list {b off : Nat} {l : List AV} {C : Phi} (h : Lies Φ m C b off l) : ∃ xs : List Value, Rs Φ m l xs ∧ ∀ j x, xs[j]? = some x → C b (off + j) = some x := by
  induction l generalizing off with
  | nil => exact ⟨[], .nil, fun j x hx => by simp at hx⟩
  | cons c r ih =>
    obtain ⟨x, hx, hr⟩ := h 0 c rfl
    obtain ⟨xs, h1, h2⟩ := ih (off := off + 1) (fun j c hc => by
      obtain ⟨y, hy, hyr⟩ := h (j + 1) c (by simpa using hc)
      exact ⟨y, by rw [show off + 1 + j = off + (j + 1) by omega]; exact hy, hyr⟩)
    refine ⟨x :: xs, .cons hr h1, fun j y hy => ?_⟩
    cases j with
    | zero => simp at hy; subst hy; exact hx
    | succ j => rw [show off + (j + 1) = off + 1 + j by omega]; exact h2 j y (by simpa using hy)
theorem Lies.drop {b off o : Nat} {l : List AV} {C : Phi} (h : Lies Φ m C b off l) : Lies Φ m C b (off + o) (l.drop o) := fun j c hc => by
  rw [List.getElem?_drop] at hc
  obtain ⟨x, hx, hr⟩ := h (o + j) c hc
  exact ⟨x, by rw [Nat.add_assoc]; exact hx, hr⟩
theorem Lies.take {b off o : Nat} {l : List AV} {C : Phi} (h : Lies Φ m C b off l) : Lies Φ m C b off (l.take o) := fun j c hc => by
  rw [List.getElem?_take] at hc
  split at hc
  · exact h j c hc
  · cases hc

theorem run_loadList {b off : Nat} {xs : List Value} (h : ∀ j x, xs[j]? = some x → w.cell? ⟨b, off + j, none⟩ = some x) : (loadCells ⟨b, off, none⟩ xs.length).run P w = .ok xs.toArray w :=
  run_loadCells_list w ⟨b, off, none⟩ xs (fun j x hx => by rw [addr_add]; exact h j x hx)

/-- A variable is read. -/
theorem load_ok {tab : Tab} (hP : TabOK P tab) {cfg : Cfg} (hc : cfg.tab = tab) {t : TypeId} {v : AV} {b off o : Nat} {C : Phi} {q : AV → DT α} (h : SatN X fid n (partD cfg t v o q) Q) (hl : Lies Φ m C b off v.cells) :
    ∃ v' x', SatN X fid n (q v') Q ∧ R Φ m v' x' ∧ ∀ w, (∀ o x, C b o = some x → w.cell? ⟨b, o, none⟩ = some x) → (Instr.loadAt t (.pointer (some ⟨b, off + o, none⟩))).run P w = .ok x' w := by
  unfold partD at h
  split at h
  · rename_i ti hti
    obtain ⟨i, d, hi, hsz, _, hu, hsh, hag, _⟩ := hP.get (hc ▸ hti)
    have hrun : ∀ w x', (loadVar t ⟨b, off + o, none⟩).run P w = .ok x' w → (Instr.loadAt t (.pointer (some ⟨b, off + o, none⟩))).run P w = .ok x' w := fun w x' hx => by
      simp [Instr.loadAt, Instr.sureAddr, hx]
    cases hagg : ti.agg with
    | true =>
      rw [hagg] at h
      simp only [cond_true] at h
      have key : ∀ cs : List AV, cs.length = ti.sz → Lies Φ m C b (off + o) cs → ∃ x', R Φ m (.agg cs) x' ∧ ∀ w, (∀ o x, C b o = some x → w.cell? ⟨b, o, none⟩ = some x) → (Instr.loadAt t (.pointer (some ⟨b, off + o, none⟩))).run P w = .ok x' w := by
        intro cs hlen hcs
        obtain ⟨xs, h1, h2⟩ := hcs.list
        refine ⟨.agg xs.toArray, .aggs (by simpa using h1), fun w hw => hrun _ _ ?_⟩
        unfold loadVar
        rw [Sem.run_bind, run_agg hu (by rw [← hag, hagg]) w, Result.andThen_ok]
        simp only [if_true, Sem.run_bind, run_size hi, Result.andThen_ok]
        rw [hsz, ← hlen, h1.1, run_loadList fun j x hx => hw _ _ (h2 j x hx)]
        rfl
      cases hb : (Nat.beq o 0 && Nat.beq ti.sz v.cells.length) with
      | true =>
        rw [hb] at h
        simp only [cond_true] at h
        simp only [Bool.and_eq_true, Nat.beq_eq] at hb
        split at h
        · rename_i cs
          obtain ⟨rfl, hz⟩ := hb
          obtain ⟨x', h1, h2⟩ := key cs hz.symm (by simpa [AV.cells] using hl)
          exact ⟨_, x', h, h1, h2⟩
        · exact h.no_fail.elim
      | false =>
        rw [hb] at h
        simp only [cond_false] at h
        cases hb2 : Nat.ble (o + ti.sz) v.cells.length with
        | true =>
          rw [hb2] at h
          simp only [cond_true, spine_eq] at h
          have hle := Nat.le_of_ble_eq_true hb2
          obtain ⟨x', h1, h2⟩ := key ((v.cells.drop o).take ti.sz) (by simp; omega) hl.drop.take
          exact ⟨_, x', h, h1, h2⟩
        | false => rw [hb2] at h; exact h.no_fail.elim
    | false =>
      rw [hagg] at h
      simp only [cond_false] at h
      split at h
      · rename_i c r hcr
        cases hone : isOneCell c with
        | false => rw [hone] at h; exact h.no_fail.elim
        | true =>
        rw [hone] at h
        obtain ⟨x, hx, hr⟩ := hl.drop (o := o) 0 c (by rw [hcr]; rfl)
        refine ⟨c, x, h, hr, fun w hw => hrun _ _ ?_⟩
        unfold loadVar
        rw [Sem.run_bind, run_agg hu (by rw [← hag, hagg]) w, Result.andThen_ok]
        simp only [Bool.false_eq_true, if_false, run_load]
        rw [Nat.add_zero] at hx
        rw [hw _ _ hx]
      · exact h.no_fail.elim
  · exact h.no_fail.elim

theorem BoxOk.lies {st : Site} {v : AV} {wr : Bool} {b e : Nat} (h : BoxOk Φ m w st v wr b e) : Lies Φ m (cellsOf w) b 0 v.cells := fun j c hc => by
  obtain ⟨x, hx, hr⟩ := h.cell j c hc
  exact ⟨x, by rw [Nat.zero_add]; exact hx, hr⟩
theorem Ext.of0 {Φ : Phi} {m : LMap} : Ext Φ m0 Φ m := ⟨fun _ _ _ h => h, fun _ _ _ _ h => by cases h⟩
theorem RowOk.lies {st : Site} {e : Nat} {xs : List AV} {wr : Bool} {b size : Nat} (h : RowOk Φ m w st e xs wr b size) {i : Nat} {v : AV} (hv : xs[i]? = some v) : Lies Φ m (cellsOf w) b (i * e) v.cells := fun j c hc => by
  obtain ⟨x, hx, hr⟩ := h.cell i v j c hv hc
  exact ⟨x, hx, hr.mono Ext.of0⟩

/-- What a pointer points to is read. -/
theorem loadD_ok {tab : Tab} (hP : TabOK P tab) {cfg : Cfg} (hc : cfg.tab = tab) {t : TypeId} {p : AV} {x : Value} (hI : Inv Φ m w s.H) (hp : R Φ m p x) (h : SatN X fid n (loadD cfg s t p k) Q) :
    ∃ v' x' rd, SatN X fid n (k ⟨v', [], rd⟩) Q ∧ R Φ m v' x' ∧ ∀ w1, KeepOn Φ m rd w w1 → (Instr.loadAt t x).run P w1 = .ok x' w1 := by
  unfold loadD at h
  split at h
  · rename_i v
    cases hp with
    | cptr f h1 h2 =>
      rename_i b off
      obtain ⟨v', x', h3, h4, h5⟩ := load_ok hP hc h (b := b) (off := off) (C := Φ) (fun j c hc => ⟨f j, h1 j c hc, (h2 j c hc).mono Ext.of0⟩)
      exact ⟨v', x', _, h3, h4, fun w1 hk => by simpa using h5 w1 fun o x hx => hk.1 b o x hx⟩
  · rename_i st i o
    cases hp with
    | ref hm =>
      rename_i b esz size
      have keep : ∀ {r : Option (Nat × Nat)} {rd : Acc} (w1 : World), KeepOn Φ m ((st, r) :: rd) w w1 → ∀ o x, cellsOf w b o = some x → w1.cell? ⟨b, o, none⟩ = some x := fun w1 hk o x hx => by
        rw [hk.2 st _ (List.mem_cons_self ..) _ _ _ hm o]; exact hx
      split at h
      · rename_i v wr hg
        have hb := hI.blk st _ hg
        obtain ⟨b', e', hb⟩ := hb
        have hl := hb.loc
        rw [hm] at hl
        cases hl
        split at h
        · obtain ⟨v', x', h3, h4, h5⟩ := load_ok hP hc h hb.lies
          refine ⟨v', x', _, h3, h4, fun w1 hk => ?_⟩
          simpa using h5 w1 (keep w1 hk)
        · exact h.no_fail.elim
      · rename_i e xs wr rm hg
        rcases hI.blk st _ hg with ⟨hn, _⟩ | ⟨b', size', hb⟩
        · rw [hm] at hn; cases hn
        · have hl := hb.loc
          rw [hm] at hl
          cases hl
          cases h with
          | elem hv h =>
            obtain ⟨v', x', h3, h4, h5⟩ := load_ok hP hc h (hb.lies hv)
            exact ⟨v', x', _, h3, h4, fun w1 hk => h5 w1 (keep w1 hk)⟩
      · exact h.no_fail.elim
  · exact h.no_fail.elim

variable {tab : Tab}
theorem gopnd_eval {cfg : Cfg} (hgl : ∀ g v, cfg.glob g = some v → R Φg m0 (.cptr v) (.pointer (some ⟨g, 0, none⟩))) (hT : RT Φ m s.T a.tmps) (hG : Glob Φg Φ₀ i₀ w₀ Φ m w) {x : Operand} {v : AV} (h : gopnd cfg s x = some v) : R Φ m v (a.eval x) := by
  unfold gopnd at h
  split at h
  · rename_i g
    split at h
    · rename_i v' hv
      cases h
      exact (hgl g v' hv).mono ⟨fun b o x h => hG.phi _ _ _ (hG.base _ _ _ h), fun _ _ _ _ h => (by cases h)⟩
    · cases h
  · exact opnd_eval hT h
theorem op_load (hgl : ∀ g v, X.cfg.glob g = some v → R Φg m0 (.cptr v) (.pointer (some ⟨g, 0, none⟩))) (hP : TabOK P tab) (hX : X.cfg.tab = tab) {t : TypeId} {y : Operand} (hop : o.op = .load t y) (h : SatN X fid n (opR X.cfg draw s o k) Q) (hT : RT Φ m s.T a.tmps)
    (hI : Inv Φ m w s.H) (hG : Glob Φg Φ₀ i₀ w₀ Φ m w) : o.wp P a w (After P Φg X fid n k Q Φ₀ i₀ w₀ o s a w Φ m) Qx := by
  unfold opR at h
  rw [hop] at h
  dsimp only at h
  split at h
  · rename_i p hp
    obtain ⟨v', x', rd, h1, h2, h3⟩ := loadD_ok hP hX hI (gopnd_eval hgl hT hG hp) h
    refine pure_ok (x := x') (rd := rd) ?_ h2 h1 hI hG
    intro w1 hk
    simp [execOp, hop, h3 w1 hk]
  · exact h.no_fail.elim

theorem op_nilCheck {y : Operand} (hop : o.op = .nilCheck y) (h : SatN X fid n (opR X.cfg draw s o k) Q) (hT : RT Φ m s.T a.tmps)
    (hI : Inv Φ m w s.H) (hG : Glob Φg Φ₀ i₀ w₀ Φ m w) : o.wp P a w (After P Φg X fid n k Q Φ₀ i₀ w₀ o s a w Φ m) Qx := by
  unfold opR at h
  rw [hop] at h
  dsimp only at h
  split at h
  · exact h.no_fail.elim
  · exact h.no_fail.elim
  · exact h.no_fail.elim
  · exact h.no_fail.elim
  · exact h.no_fail.elim
  · rename_i v h1 h2 h3 h4 h5 hv
    have hr := opnd_eval hT hv
    generalize hx : a.eval y = x at hr
    refine pure_ok (x := x) ?_ hr h hI hG
    intro w1 _
    simp only [execOp, hop, hx]
    cases hr <;> simp_all
  · exact h.no_fail.elim

theorem op_makeInterface (hP : TabOK P tab) (hX : X.cfg.tab = tab) {t : TypeId} {y : Operand} (hop : o.op = .makeInterface t y) (h : SatN X fid n (opR X.cfg draw s o k) Q) (hT : RT Φ m s.T a.tmps)
    (hI : Inv Φ m w s.H) (hG : Glob Φg Φ₀ i₀ w₀ Φ m w) : o.wp P a w (After P Φg X fid n k Q Φ₀ i₀ w₀ o s a w Φ m) Qx := by
  unfold opR at h
  rw [hop] at h
  dsimp only at h
  split at h
  · rename_i v hv
    split at h
    · rename_i ti hti
      obtain ⟨i, d, hi, hsz, _, hu, hsh, hag, _⟩ := hP.get (hX ▸ hti)
      split at h
      · exact h.no_fail.elim
      · rename_i hd
        cases hb : (isOneCell v || allOneCell v.cells) with
        | false => rw [hb] at h; exact h.no_fail.elim
        | true =>
          rw [hb] at h
          refine pure_ok (x := .iface t (a.eval y)) ?_ (.iface (opnd_eval hT hv)) h hI hG
          intro w1 _
          simp only [execOp, hop, Instr.makeInterface]
          rw [Sem.run_bind, Sem.run_bind, run_under hu, Result.andThen_ok]
          unfold ShOk at hsh
          split at hsh
          · obtain ⟨fs, rfl, _⟩ := hsh; simp
          · obtain ⟨rfl, _⟩ := hsh; simp
          · subst hsh; simp
          · subst hsh; simp
          · subst hsh; simp
          · subst hsh; simp
          · subst hsh; simp
          · simp_all
          · obtain ⟨_, _, h3⟩ := hsh
            cases d <;> simp_all
    · exact h.no_fail.elim
  · exact h.no_fail.elim

theorem op_makeFunc {f : FuncId} {as cs : Array Operand} (hop : o.op = .makeFunc (.func f) as cs) (h : SatN X fid n (opR X.cfg draw s o k) Q) (hT : RT Φ m s.T a.tmps)
    (hI : Inv Φ m w s.H) (hG : Glob Φg Φ₀ i₀ w₀ Φ m w) : o.wp P a w (After P Φg X fid n k Q Φ₀ i₀ w₀ o s a w Φ m) Qx := by
  unfold opR at h
  rw [hop] at h
  dsimp only at h
  split at h
  · rename_i vs us hvs hus
    refine pure_ok (x := .func (.func f) (as.map a.eval) (cs.map a.eval)) ?_ (R.funcs (by simpa using opnds_eval hT hvs) (by simpa using opnds_eval hT hus)) h hI hG
    intro w1 _
    simp [execOp, hop, Instr.makeFunc]
  · exact h.no_fail.elim

theorem op_extract {y : Operand} {i : Nat} (hop : o.op = .extract y i) (h : SatN X fid n (opR X.cfg draw s o k) Q) (hT : RT Φ m s.T a.tmps)
    (hI : Inv Φ m w s.H) (hG : Glob Φg Φ₀ i₀ w₀ Φ m w) : o.wp P a w (After P Φg X fid n k Q Φ₀ i₀ w₀ o s a w Φ m) Qx := by
  unfold opR at h
  rw [hop] at h
  dsimp only at h
  split at h
  · rename_i vs hvs
    split at h
    · rename_i v hv
      obtain ⟨xs, hx, hr⟩ := (opnd_eval hT hvs).tuple_inv
      obtain ⟨x, hxi, hxr⟩ := hr.2 i v hv
      refine pure_ok (x := x) ?_ hxr h hI hG
      intro w1 _
      simp only [execOp, hop, hx, Instr.extract]
      have : xs[i]? = some x := by simpa using hxi
      simp [this]
    · exact h.no_fail.elim
  · exact h.no_fail.elim
end
end Go.Ab
