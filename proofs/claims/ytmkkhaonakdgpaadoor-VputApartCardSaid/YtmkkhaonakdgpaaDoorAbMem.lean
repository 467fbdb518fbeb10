/- Operations that make or change memory. -/
import Derived.Test.YtmkkhaonakdgpaaDoorAbOps5
namespace Go.Ab
open Go
section
variable {Φg : Phi} {α : Type} {X : Ctx} {fid : FuncId} {P : Program} {n : Nat} {draw : Bool} {s : St} {o : Oper} {k : Script → DT α} {Q : α → Prop} {a : Act} {w w' w₀ : World}
  {Φ Φ' Φ₀ : Phi} {m m' i₀ : LMap} {Qx : Exit → Act → World → Prop} {tab : Tab}

/-- A block that nothing touches stays. -/
structure Same (Φ Φ' : Phi) (w w' : World) (b : Nat) : Prop where
  cell : ∀ o, w'.cell? ⟨b, o, none⟩ = w.cell? ⟨b, o, none⟩
  frz : ∀ o, w'.frozen? ⟨b, o, none⟩ = w.frozen? ⟨b, o, none⟩
  shape : w'.shape? b = w.shape? b
  phi : ∀ o, Φ' b o = Φ b o
theorem BlkOk.keep {st : Site} {B : Blk} (h : BlkOk Φ m w st B) (hm : m' st = m st) (he : Ext Φ m Φ' m') (hw : ∀ b e z, m st = .at b e z → Same Φ Φ' w w' b) : BlkOk Φ' m' w' st B := by
  cases B with
  | box v wr =>
    obtain ⟨b, e, h⟩ := h
    have hs := hw _ _ _ h.loc
    refine ⟨b, e, hm.trans h.loc, by rw [hs.shape]; exact h.shape, fun j c hc => ?_, fun o ho => by rw [hs.frz]; exact h.nf o ho, fun hwr o => by rw [hs.phi]; exact h.phi hwr o⟩
    obtain ⟨x, hx, hr⟩ := h.cell j c hc
    exact ⟨x, by rw [hs.cell]; exact hx, hr.mono he⟩
  | row e xs wr rm =>
    rcases h with ⟨h1, h2, h3⟩ | ⟨b, size, h⟩
    · exact .inl ⟨hm.trans h1, h2, h3⟩
    · have hs := hw _ _ _ h.loc
      refine .inr ⟨b, size, hm.trans h.loc, h.pos, h.len, by rw [hs.shape]; exact h.shape, h.each, fun i v j c hv hc => ?_, fun o ho => by rw [hs.frz]; exact h.nf o ho, fun hwr o => by rw [hs.phi]; exact h.phi hwr o, fun o ho => h.room o (by rw [← hs.phi]; exact ho), h.one⟩
      obtain ⟨x, hx, hr⟩ := h.cell i v j c hv hc
      exact ⟨x, by rw [hs.cell]; exact hx, hr.mono ⟨he.phi, fun _ _ _ _ h => h⟩⟩
  | gone => trivial

def upd (m : LMap) (st : Site) (l : Loc) : LMap := fun x => if x = st then l else m x
theorem upd_same (m : LMap) (st : Site) (l : Loc) : upd m st l st = l := by simp [upd]
theorem upd_ne (m : LMap) {st x : Site} (l : Loc) (h : x ≠ st) : upd m st l x = m x := by simp [upd, h]
theorem Ext.upd {st : Site} {l : Loc} (h : m st = .none) : Ext Φ m Φ (upd m st l) :=
  ⟨fun _ _ _ h => h, fun x b e z hx => by
    by_cases hs : x = st
    · subst hs; rw [h] at hx; cases hx
    · rw [upd_ne _ _ hs]; exact hx⟩

theorem same_alloc {ob : Obj} {b : Nat} (hb : b < w.heap.size) : Same Φ Φ w (w.alloc ob) b :=
  ⟨fun o => World.cell?_alloc_lt _ _ _ hb, fun o => World.frozen?_alloc_old _ _ _ (Nat.ne_of_lt hb), by simp only [World.shape?, World.alloc, Array.getElem?_push]; rw [if_neg (Nat.ne_of_lt hb)], fun _ => rfl⟩

/-- A new block. -/
theorem Inv.alloc {H : Heap} {st : Site} {B : Blk} {ob : Obj} {e : Nat} {z : Nat × Nat} (hI : Inv Φ m w H) (hs : hget H st = none) (hB : BlkOk Φ (upd m st (.at w.heap.size e z)) (w.alloc ob) st B) :
    Inv Φ (upd m st (.at w.heap.size e z)) (w.alloc ob) ((st, B) :: H) := by
  have hn := hI.map st hs
  refine ⟨fun b o x hx => ?_, fun x C hC => ?_, fun x hx => ?_, ?_, ?_⟩
  · have := hI.phi b o x hx
    rw [World.cell?_alloc_lt _ _ _ (World.block_lt_of_cell? _ _ this)]; exact this
  · by_cases hx : st = x
    · subst hx; rw [hget_cons_same] at hC; cases hC; exact hB
    · rw [hget_cons_ne _ _ hx] at hC
      exact (hI.blk x C hC).keep (upd_ne _ _ (Ne.symm hx)) (Ext.upd hn) fun b e z hb => same_alloc (hI.lt _ _ _ _ hb)
  · by_cases hxs : st = x
    · subst hxs; rw [hget_cons_same] at hx; cases hx
    · rw [hget_cons_ne _ _ hxs] at hx; rw [upd_ne _ _ (Ne.symm hxs)]; exact hI.map x hx
  · intro x x' C C' b e1 z1 e2 z2 hC hC' hl hl' hm hm'
    by_cases hx : st = x
    · by_cases hx' : st = x'
      · rw [← hx, ← hx']
      · rw [← hx, upd_same] at hm
        rw [upd_ne _ _ (Ne.symm hx')] at hm'
        cases hm
        have := hI.lt _ _ _ _ hm'
        omega
    · by_cases hx' : st = x'
      · rw [← hx', upd_same] at hm'
        rw [upd_ne _ _ (Ne.symm hx)] at hm
        cases hm'
        have := hI.lt _ _ _ _ hm
        omega
      · rw [hget_cons_ne _ _ hx] at hC
        rw [hget_cons_ne _ _ hx'] at hC'
        rw [upd_ne _ _ (Ne.symm hx)] at hm
        rw [upd_ne _ _ (Ne.symm hx')] at hm'
        exact hI.inj _ _ _ _ _ _ _ _ _ hC hC' hl hl' hm hm'
  · intro x b e1 z1 hm
    rw [World.size_alloc]
    by_cases hx : x = st
    · subst hx; rw [upd_same] at hm; cases hm; omega
    · rw [upd_ne _ _ hx] at hm; have := hI.lt _ _ _ _ hm; omega
theorem Glob.alloc {st : Site} {ob : Obj} {e : Nat} {z : Nat × Nat} (hG : Glob Φg Φ₀ i₀ w₀ Φ m w) (hn : m st = .none) : Glob Φg Φ₀ i₀ w₀ Φ (upd m st (.at w.heap.size e z)) (w.alloc ob) := by
  refine ⟨hG.phi, hG.phiNew, fun i b e1 z1 h => ?_, fun x b e1 z1 h => ?_, fun b hb h => ?_, ?_, hG.os, hG.out, hG.tape, hG.base⟩
  · have h1 := hG.inc i b e1 z1 h
    by_cases hx : Site.inc i = st
    · rw [hx] at h1; rw [hn] at h1; cases h1
    · rw [upd_ne _ _ hx]; exact h1
  · by_cases hx : x = st
    · subst hx; rw [upd_same] at h; cases h; exact .inr hG.size
    · rw [upd_ne _ _ hx] at h; exact hG.own _ _ _ _ h
  · rw [← hG.same b hb h]
    simp only [World.alloc, Array.getElem?_push]
    rw [if_neg (by have := hG.size; omega)]
  · rw [World.size_alloc]; have := hG.size; omega

theorem SatN.noSite_inv {β : Type} {H : Heap} {st : Site} {d : DT β} {Q : β → Prop} (h : SatN X fid n (noSite H st d) Q) : hget H st = none ∧ SatN X fid n d Q := by
  unfold noSite at h
  split at h
  · rename_i hh; exact ⟨hh, h⟩
  · exact h.no_fail.elim

theorem Stays.alloc {fx : List Fx} {ob : Obj} : Stays m fx w (w.alloc ob) := fun b hb _ => by
  simp only [World.alloc, Array.getElem?_push]
  rw [if_neg (Nat.ne_of_lt hb)]
/-- An operation that makes one new block. -/
theorem alloc_ok {st : Site} {B : Blk} {v : AV} {x : Value} {rd : Acc} {ob : Obj} {e : Nat} {z : Nat × Nat} (hrun : (execOp a.eval o).run P w = .ok (.value x) (w.alloc ob)) (hs : hget s.H st = none)
    (hB : BlkOk Φ (upd m st (.at w.heap.size e z)) (w.alloc ob) st B) (hr : R Φ (upd m st (.at w.heap.size e z)) v x) (h : SatN X fid n (k ⟨v, [.alloc st B], rd⟩) Q)
    (hI : Inv Φ m w s.H) (hG : Glob Φg Φ₀ i₀ w₀ Φ m w) : o.wp P a w (After P Φg X fid n k Q Φ₀ i₀ w₀ o s a w Φ m) Qx := by
  unfold Oper.wp
  rw [hrun]
  exact ⟨Φ, _, ⟨v, [.alloc st B], rd⟩, x, h, hr, rfl, Ext.upd (hI.map st hs), hI.alloc hs hB, hG.alloc (hI.map st hs), Stays.alloc, fun h => by cases h⟩

theorem shape_new (c : Array Value) (t : TypeId) : (w.alloc (.cells c t)).shape? w.heap.size = some (t, c.size) := by
  unfold World.shape?
  rw [heap_alloc_new]
theorem ref_new {st : Site} {b e : Nat} {z : Nat × Nat} : R Φ (upd m st (.at b e z)) (.ref st 0 0) (.pointer (some ⟨b, 0, none⟩)) := by
  have := R.ref (Φ := Φ) (m := upd m st (.at b e z)) (s := st) (i := 0) (o := 0) (upd_same m st (.at b e z))
  simpa using this
/-- A new variable. -/
theorem box_new {st : Site} {v : AV} {x : Value} {t : TypeId} {e : Nat} (hn : m st = .none) (hr : Rs Φ m v.cells x.cells.toList) (hphi : ∀ o, Φ w.heap.size o = none) :
    BlkOk Φ (upd m st (.at w.heap.size e (x.cells.size, 0))) (w.alloc (.cells x.cells t)) st (.box v true) := by
  have hlen : v.cells.length = x.cells.size := by simpa using hr.1
  refine ⟨w.heap.size, e, ⟨by rw [upd_same, hlen], ⟨t, by rw [shape_new, hlen]⟩, fun j c hc => ?_, fun o _ => World.frozen?_alloc_new _ _ _ _, fun _ o => hphi o⟩⟩
  obtain ⟨y, hy, hyr⟩ := hr.2 j c hc
  exact ⟨y, by rw [World.cell?_alloc_new]; simpa using hy, hyr.mono (Ext.upd hn)⟩
theorem Inv.phi_new {H : Heap} (hI : Inv Φ m w H) (o : Nat) : Φ w.heap.size o = none := by
  cases h : Φ w.heap.size o with
  | none => rfl
  | some x => have := World.block_lt_of_cell? _ _ (hI.phi _ _ _ h); exact absurd this (Nat.lt_irrefl _)

theorem zero_ok (hP : TabOK P tab) (hX : X.cfg.tab = tab) {t : TypeId} {ti : TI} {z : AV} (hti : X.cfg.tab.get t = some ti) (hz : ti.zero = some z) :
    ∃ v, (∀ w : World, (zeroValue t).run P w = .ok v w) ∧ ofValue v = some z := by
  obtain ⟨i, d, hi, hsz, _, hu, hsh, hag, hzz, _⟩ := hP.get (hX ▸ hti)
  obtain ⟨v, h1, h2⟩ := hzz z hz
  exact ⟨v, fun w => by simp [zeroValue, run_info hi, h1], h2⟩
theorem ofLit_ne_top {v : Value} : ofLit v ≠ some .top := by unfold ofLit; split <;> simp
theorem ofValue_ne_top {v : Value} : ofValue v ≠ some .top := by
  unfold ofValue
  split
  · split <;> simp
  · exact ofLit_ne_top

theorem op_alloc (hP : TabOK P tab) (hX : X.cfg.tab = tab) {t : TypeId} (hop : o.op = .alloc t) (h : SatN X fid n (opR X.cfg draw s o k) Q)
    (hI : Inv Φ m w s.H) (hG : Glob Φg Φ₀ i₀ w₀ Φ m w) : o.wp P a w (After P Φg X fid n k Q Φ₀ i₀ w₀ o s a w Φ m) Qx := by
  unfold opR at h
  rw [hop] at h
  dsimp only at h
  split at h
  · rename_i sz_ ag_ ds_ fl_ z by_ cm_ hti
    unfold allocD at h
    split at h
    · obtain ⟨hs, h⟩ := h.noSite_inv
      obtain ⟨v, h1, h2⟩ := zero_ok hP hX hti rfl
      have hr : Rs Φ m z.cells v.cells.toList := (R.value h2).cells (fun e => ofValue_ne_top (e ▸ h2))
      refine alloc_ok (e := 0) (z := (v.cells.size, 0)) (ob := .cells v.cells t) (x := .pointer (some ⟨w.heap.size, 0, none⟩)) ?_ hs (box_new (hI.map _ hs) hr hI.phi_new) ?_ h hI hG
      · simp only [execOp, hop, Instr.alloc, Sem.run_bind, h1, Result.andThen_ok, newVar, newRow, run_newObj, Sem.run_pure, World.alloc_eq]
      · exact ref_new
    · exact h.no_fail.elim
  · exact h.no_fail.elim

theorem allOne_ne_top {v : AV} (h : allOneCell v.cells = true) : v ≠ .top := by
  rintro rfl; simp [AV.cells, allOneCell, isOneCell] at h
theorem op_box {t : TypeId} {y : Operand} (hop : o.op = .box t y) (h : SatN X fid n (opR X.cfg draw s o k) Q) (hT : RT Φ m s.T a.tmps)
    (hI : Inv Φ m w s.H) (hG : Glob Φg Φ₀ i₀ w₀ Φ m w) : o.wp P a w (After P Φg X fid n k Q Φ₀ i₀ w₀ o s a w Φ m) Qx := by
  unfold opR at h
  rw [hop] at h
  dsimp only at h
  split at h
  · rename_i v hv
    cases hone : allOneCell v.cells with
    | false => rw [hone] at h; exact h.no_fail.elim
    | true =>
      rw [hone] at h
      simp only [cond_true] at h
      unfold allocD at h
      split at h
      · obtain ⟨hs, h⟩ := h.noSite_inv
        have hr := (opnd_eval hT hv).cells (allOne_ne_top hone)
        refine alloc_ok (e := 0) (z := ((a.eval y).cells.size, 0)) (ob := .cells (a.eval y).cells t) (x := .pointer (some ⟨w.heap.size, 0, none⟩)) ?_ hs (box_new (hI.map _ hs) hr hI.phi_new) ?_ h hI hG
        · simp only [execOp, hop, Instr.box, Sem.run_bind, Result.andThen_ok, newVar, newRow, run_newObj, Sem.run_pure, World.alloc_eq]
        · exact ref_new
      · exact h.no_fail.elim
  · exact h.no_fail.elim
end
end Go.Ab
