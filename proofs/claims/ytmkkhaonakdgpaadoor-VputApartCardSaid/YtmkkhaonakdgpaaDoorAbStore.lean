/- Stores. -/
import Derived.Test.YtmkkhaonakdgpaaDoorAbMore2
import Derived.Laws.IdiomCopy
namespace Go.Ab
open Go
section
variable {Φg : Phi} {α : Type} {X : Ctx} {fid : FuncId} {P : Program} {n : Nat} {draw : Bool} {s : St} {o : Oper} {k : Script → DT α} {Q : α → Prop} {a : Act} {w w' w₀ : World}
  {Φ Φ' Φ₀ : Phi} {m m' i₀ μ : LMap} {Qx : Exit → Act → World → Prop} {H : Heap} {tab : Tab}

theorem setCell_other {w : World} {b c : Nat} (h : c ≠ b) (o : Nat) (v : Value) : (w.setCell ⟨b, o, none⟩ v).heap[c]? = w.heap[c]? := by
  simp only [World.setCell, Array.getElem?_modify]
  rw [if_neg (Ne.symm h)]
theorem setCells_other {b c : Nat} (h : c ≠ b) : ∀ (vs : List Value) (o : Nat) (w : World), (w.setCells b o vs).heap[c]? = w.heap[c]?
  | [], _, _ => rfl
  | v :: r, o, w => by rw [World.setCells, setCells_other h r, setCell_other h]
theorem setCell_shape {w : World} {b c : Nat} (o : Nat) (v : Value) : (w.setCell ⟨b, o, none⟩ v).shape? c = w.shape? c := by
  simp only [World.shape?, World.setCell, Array.getElem?_modify]
  by_cases h : b = c
  · subst h
    rw [if_pos rfl]
    cases w.heap[b]? with
    | none => rfl
    | some ob => cases ob <;> simp
  · rw [if_neg h]
theorem setCells_shape {b c : Nat} : ∀ (vs : List Value) (o : Nat) (w : World), (w.setCells b o vs).shape? c = w.shape? c
  | [], _, _ => rfl
  | v :: r, o, w => by rw [World.setCells, setCells_shape r, setCell_shape]
theorem setCells_size {b : Nat} : ∀ (vs : List Value) (o : Nat) (w : World), (w.setCells b o vs).heap.size = w.heap.size
  | [], _, _ => rfl
  | v :: r, o, w => by rw [World.setCells, setCells_size r, World.size_setCell]
theorem setCells_same {b : Nat} : ∀ (vs : List Value) (o : Nat) (w : World), (w.setCells b o vs).os = w.os ∧ (w.setCells b o vs).output = w.output ∧ (w.setCells b o vs).tape = w.tape
  | [], _, _ => ⟨rfl, rfl, rfl⟩
  | v :: r, o, w => by rw [World.setCells]; exact setCells_same r _ _

theorem setCells_get {l ds : List AV} {o : Nat} (h : o + ds.length ≤ l.length) (j : Nat) : (setCells l o ds)[j]? = if j < o then l[j]? else if j < o + ds.length then ds[j - o]? else l[j]? := by
  rw [setCells_eq l o ds h]
  have ht : (l.take o).length = o := by rw [List.length_take]; omega
  by_cases h1 : j < o
  · rw [if_pos h1, List.append_assoc, List.getElem?_append_left (by omega), List.getElem?_take, if_pos h1]
  · rw [if_neg h1]
    by_cases h2 : j < o + ds.length
    · rw [if_pos h2, List.getElem?_append_left (by rw [List.length_append]; omega), List.getElem?_append_right (by omega), ht]
    · rw [if_neg h2, List.getElem?_append_right (by rw [List.length_append]; omega), List.length_append, ht, List.getElem?_drop]
      congr 1; omega
theorem setCells_len {l ds : List AV} {o : Nat} (h : o + ds.length ≤ l.length) : (setCells l o ds).length = l.length := by
  rw [setCells_eq l o ds h]; simp; omega
theorem setCells_all {l ds : List AV} (h : ds.length = l.length) : setCells l 0 ds = ds := by
  rw [setCells_eq l 0 ds (by omega)]; simp [h]

/-- Cells written. -/
theorem Lies.set {b off o : Nat} {l ds : List AV} {xs : List Value} (hl : Lies Φ μ (cellsOf w) b off l) (hd : Rs Φ μ ds xs) (h : o + ds.length ≤ l.length) : Lies Φ μ (cellsOf (w.setCells b (off + o) xs)) b off (setCells l o ds) := by
  intro j c hj
  rw [setCells_get h] at hj
  have out : (j < o ∨ o + ds.length ≤ j) → l[j]? = some c → ∃ x, cellsOf (w.setCells b (off + o) xs) b (off + j) = some x ∧ R Φ μ c x := fun ho hc => by
    obtain ⟨x, hx, hr⟩ := hl j c hc
    refine ⟨x, ?_, hr⟩
    show (w.setCells b (off + o) xs).cell? ⟨b, off + j, none⟩ = some x
    rw [World.cell?_setCells_out b xs (off + o) w _ fun _ _ => by show off + j < off + o ∨ off + o + xs.length ≤ off + j; rw [← hd.1]; omega]
    exact hx
  split at hj
  · rename_i h1; exact out (.inl h1) hj
  · split at hj
    · rename_i h1 h2
      obtain ⟨x, hx, hr⟩ := hd.2 _ c hj
      refine ⟨x, ?_, hr⟩
      have hlt : j - o < xs.length := (List.getElem?_eq_some_iff.1 hx).1
      have := World.cell?_setCells_in b xs (off + o) w (fun i hi => by
        have hi' : o + i < l.length := by have := hd.1; omega
        obtain ⟨y, hy, _⟩ := hl (o + i) l[o + i] (List.getElem?_eq_getElem hi')
        rw [Nat.add_assoc]
        exact Option.isSome_iff_exists.2 ⟨y, hy⟩) (j - o) hlt
      show (w.setCells b (off + o) xs).cell? ⟨b, off + j, none⟩ = some x
      rw [show off + j = off + o + (j - o) by omega, this]
      have := (List.getElem?_eq_some_iff.1 hx).2
      rw [this]
    · rename_i h1 h2; exact out (.inr (by omega)) hj

theorem Inv.write {st : Site} {B B' : Blk} {b e : Nat} {z : Nat × Nat} {off : Nat} {xs : List Value} (hI : Inv Φ m w H) (hg : hget H st = some B) (hl : B.live) (hm : m st = .at b e z) (hphi : ∀ o, Φ b o = none)
    (hB' : BlkOk Φ m (w.setCells b off xs) st B') : Inv Φ m (w.setCells b off xs) (hset H st B') := by
  have hsame : ∀ c, c ≠ b → Same Φ Φ w (w.setCells b off xs) c := fun c hc => by
    have hh := setCells_other hc xs off w
    exact ⟨fun o => by simp only [World.cell?, hh], fun o => by simp only [World.frozen?, hh], by simp only [World.shape?, hh], fun _ => rfl⟩
  refine ⟨fun c o x hx => ?_, fun s C hC => ?_, fun s hs => ?_, fun s1 s2 B1 B2 b1 e1 z1 e2 z2 h1 h2 l1 l2 hm1 hm2 => ?_, fun s b1 e1 z1 hm1 => ?_⟩
  · have hne : c ≠ b := by rintro rfl; rw [hphi] at hx; cases hx
    rw [(hsame c hne).cell]; exact hI.phi c o x hx
  · by_cases h : st = s
    · subst h
      rw [hget_hset_same hg] at hC
      cases hC; exact hB'
    · rw [hget_hset_ne h] at hC
      by_cases hlc : C.live
      · refine (hI.blk s C hC).keep rfl (Ext.refl _ _) fun c e' z' hc => hsame c ?_
        rintro rfl
        exact h (hI.inj _ _ _ _ _ _ _ _ _ hg hC hl hlc hm hc)
      · cases C <;> first | exact absurd trivial hlc | trivial
  · by_cases h : st = s
    · subst h; rw [hget_hset_same hg] at hs; cases hs
    · rw [hget_hset_ne h] at hs; exact hI.map s hs
  · have key : ∀ {s C}, hget (hset H st B') s = some C → C.live → ∃ C', hget H s = some C' ∧ C'.live := fun {s C} hC hlc => by
      by_cases h : st = s
      · subst h; exact ⟨B, hg, hl⟩
      · rw [hget_hset_ne h] at hC; exact ⟨C, hC, hlc⟩
    obtain ⟨C1, k1, j1⟩ := key h1 l1
    obtain ⟨C2, k2, j2⟩ := key h2 l2
    exact hI.inj _ _ _ _ _ _ _ _ _ k1 k2 j1 j2 hm1 hm2
  · rw [setCells_size]; exact hI.lt _ _ _ _ hm1
theorem Glob.write {st : Site} {b e : Nat} {z : Nat × Nat} {off : Nat} {xs : List Value} (hG : Glob Φg Φ₀ i₀ w₀ Φ m w) (hm : m st = .at b e z) : Glob Φg Φ₀ i₀ w₀ Φ m (w.setCells b off xs) := by
  obtain ⟨h1, h2, h3⟩ := setCells_same (b := b) xs off w
  refine ⟨hG.phi, hG.phiNew, hG.inc, hG.own, fun c hc hi => ?_, by rw [setCells_size]; exact hG.size, h1.trans hG.os, h2.trans hG.out, h3.trans hG.tape, hG.base⟩
  have hne : c ≠ b := by
    rintro rfl
    rcases hG.own _ _ _ _ hm with ⟨i, e', z', h⟩ | h
    · exact hi _ _ _ h
    · omega
  rw [setCells_other hne]
  exact hG.same c hc hi
theorem Stays.write {st : Site} {b e : Nat} {z : Nat × Nat} {off : Nat} {xs : List Value} {fx : List Fx} (hm : m st = .at b e z) (hh : st ∈ fxHit fx) : Stays m fx w (w.setCells b off xs) := fun c _ hs =>
  setCells_other (fun h => hs st hh e z (by rw [h]; exact hm)) xs off w

theorem store_run {t : TypeId} {i : TypeInfo} {b off : Nat} {xv : Value} (hi : P.info? t = some i) (hs : xv.cells.size = i.size) (hc : ∀ j, j < xv.cells.toList.length → (w.cell? ⟨b, off + j, none⟩).isSome = true)
    (hf : ∀ j, j < xv.cells.toList.length → w.frozen? ⟨b, off + j, none⟩ = false) (h1 : ∀ v ∈ xv.cells.toList, v.oneCell' = true) :
    (Instr.storeAt t (.pointer (some ⟨b, off, none⟩)) xv).run P w = .ok () (w.setCells b off xv.cells.toList) := by
  have := run_storeCells_cells (P := P) b off xv.cells.toList 0 w (by simpa using hc) (by simpa using hf) h1
  simp only [Instr.storeAt, Instr.sureAddr, Sem.run_bind, Sem.run_pure, Result.andThen_ok, storeVar, run_size hi]
  rw [if_neg (by simp [hs])]
  exact this
theorem allOne_at : ∀ {l : List AV}, allOneCell l = true → ∀ {j : Nat} {c : AV}, l[j]? = some c → isOneCell c = true
  | [], _, j, c, h => by simp at h
  | v :: r, ha, j, c, h => by
    simp only [allOneCell, Bool.and_eq_true] at ha
    cases j with
    | zero => simp at h; subst h; exact ha.1
    | succ j => exact allOne_at ha.2 (by simpa using h)
theorem one_cells {ds : List AV} {xs : List Value} (hd : Rs Φ m ds xs) (ha : allOneCell ds = true) : ∀ v ∈ xs, v.oneCell' = true := fun v hv => by
  obtain ⟨j, hj⟩ := List.getElem?_of_mem hv
  have hlt : j < ds.length := by rw [hd.1]; exact (List.getElem?_eq_some_iff.1 hj).1
  have hdj := List.getElem?_eq_getElem hlt
  exact ((hd.at hdj hj).one (allOne_at ha hdj)).2
theorem allOne_iff : ∀ {l : List AV}, allOneCell l = true ↔ ∀ v ∈ l, isOneCell v = true
  | [] => by simp [allOneCell]
  | v :: r => by simp [allOneCell, allOne_iff (l := r)]
theorem setCells_one {l ds : List AV} {o : Nat} (h : o + ds.length ≤ l.length) (h1 : allOneCell l = true) (h2 : allOneCell ds = true) : allOneCell (setCells l o ds) = true := by
  rw [setCells_eq l o ds h, allOne_iff]
  intro v hv
  simp only [List.mem_append] at hv
  rcases hv with (hv | hv) | hv
  · exact allOne_iff.1 h1 v (List.mem_of_mem_take hv)
  · exact allOne_iff.1 h2 v hv
  · exact allOne_iff.1 h1 v (List.mem_of_mem_drop hv)
theorem setPart_cells {v : AV} {o : Nat} {cs : List AV} (h : o + cs.length ≤ v.cells.length) (ha : allOneCell cs = true) : (setPart v o cs).cells = setCells v.cells o cs := by
  by_cases hag : ∃ l, v = .agg l
  · obtain ⟨l, rfl⟩ := hag; rfl
  · have hcl : v.cells = [v] := by cases v <;> first | rfl | exact absurd ⟨_, rfl⟩ hag
    rw [hcl] at h ⊢
    have h' : o + cs.length ≤ 1 := by simpa using h
    cases cs with
    | nil =>
      rw [setCells_eq [v] o [] h]
      have : setPart v o [] = v := by unfold setPart; split <;> simp_all
      rw [this, hcl]; simp
    | cons c r =>
      have hr : r = [] := by cases r with | nil => rfl | cons => simp at h'; omega
      subst hr
      have ho : o = 0 := by simp at h'; omega
      subst ho
      have : setPart v 0 [c] = c := by unfold setPart; split <;> simp_all
      rw [this, isOneCell_cells (allOne_at ha (j := 0) rfl)]; rfl

theorem op_store (hP : TabOK P tab) (hX : X.cfg.tab = tab) {t : TypeId} {f g : Operand} (hop : o.op = .store t f g) (h : SatN X fid n (opR X.cfg draw s o k) Q) (hT : RT Φ m s.T a.tmps)
    (hI : Inv Φ m w s.H) (hG : Glob Φg Φ₀ i₀ w₀ Φ m w) : o.wp P a w (After P Φg X fid n k Q Φ₀ i₀ w₀ o s a w Φ m) Qx := by
  unfold opR at h
  rw [hop] at h
  dsimp only at h
  split at h
  · rename_i p x hp hx
    have hrp := opnd_eval hT hp
    have hrx := opnd_eval hT hx
    generalize hef : a.eval f = ef at hrp
    generalize heg : a.eval g = eg at hrx
    unfold storeD at h
    split at h
    · rename_i ti hti
      obtain ⟨ii, d, hii, hsz, _⟩ := hP.get (hX ▸ hti)
      cases hb : (Nat.beq x.cells.length ti.sz && allOneCell x.cells) with
      | false => rw [hb] at h; exact h.no_fail.elim
      | true =>
        rw [hb] at h
        simp only [Bool.and_eq_true, Nat.beq_eq] at hb
        obtain ⟨hxl, hone⟩ := hb
        simp only [cond_true] at h
        have hxc := hrx.cells (allOne_ne_top hone)
        have hxs : eg.cells.size = ii.size := by have := hxc.1; rw [hxl] at this; rw [hsz]; simpa using this.symm
        have h1c := one_cells hxc hone
        split at h
        · rename_i st i oo
          cases hrp with
          | ref hm =>
            rename_i b esz size
            -- carried out
            have fin : ∀ {off : Nat} {fx : List Fx} {rd : Acc} {Φ1 : Phi} {w1 : World}, i * esz + oo = off → SatN X fid n (k ⟨.tuple [], fx, rd⟩) Q → w1 = w.setCells b off eg.cells.toList →
                (∀ j, j < eg.cells.toList.length → (w.cell? ⟨b, off + j, none⟩).isSome = true) → (∀ j, j < eg.cells.toList.length → w.frozen? ⟨b, off + j, none⟩ = false) →
                Ext Φ m Φ1 m → Inv Φ1 m w1 (fxApp s.H fx) → Glob Φg Φ₀ i₀ w₀ Φ1 m w1 → st ∈ fxHit fx → fx ≠ [] → o.wp P a w (After P Φg X fid n k Q Φ₀ i₀ w₀ o s a w Φ m) Qx := by
              intro off fx rd Φ1 w1 hoff hs hw1 hc hf he hI1 hG1 hhit hne
              subst hw1
              subst hoff
              have hrun := store_run (P := P) (w := w) (b := b) (off := i * esz + oo) (xv := eg) hii hxs hc hf h1c
              unfold Oper.wp
              have hex : (execOp a.eval o).run P w = .ok .skip (w.setCells b (i * esz + oo) eg.cells.toList) := by
                simp only [execOp, hop, hef, heg, Sem.run_bind, hrun, Result.andThen_ok, Sem.run_pure]
              rw [hex]
              exact ⟨Φ1, m, ⟨.tuple [], fx, rd⟩, undef, hs, R.tuples (by simpa [undef] using Rs.nil), rfl, he, hI1, hG1, Stays.write hm hhit, fun h => absurd h hne⟩
            split at h
            · rename_i v wr hg
              obtain ⟨b', e', hbox⟩ := hI.blk st _ hg
              have hl := hbox.loc
              rw [hm] at hl
              cases hl
              split at h
              · cases wr with
                | false => exact h.no_fail.elim
                | true =>
                  simp only [Bool.not_true, cond_false] at h
                  have hphi := hbox.phi rfl
                  -- the variable, as it is then
                  have box : ∀ {v' : AV}, oo + x.cells.length ≤ v.cells.length → v'.cells = setCells v.cells oo x.cells → BlkOk Φ m (w.setCells b oo eg.cells.toList) st (.box v' true) := fun {v'} hle hv' => by
                    have hlies := hbox.lies.set (o := oo) hxc hle
                    rw [Nat.zero_add] at hlies
                    have hlen : v'.cells.length = v.cells.length := by rw [hv', setCells_len hle]
                    refine ⟨b, esz, ⟨by rw [hlen]; exact hbox.loc, by rw [hlen, setCells_shape]; exact hbox.shape, fun j c hc => ?_, fun q hq => by rw [World.frozen?_setCells]; exact hbox.nf q (by rwa [← hlen]), fun _ => hphi⟩⟩
                    rw [hv'] at hc
                    obtain ⟨y, hy, hyr⟩ := hlies j c hc
                    rw [Nat.zero_add] at hy
                    exact ⟨y, hy, hyr⟩
                  have cells : oo + x.cells.length ≤ v.cells.length → (∀ j, j < eg.cells.toList.length → (w.cell? ⟨b, oo + j, none⟩).isSome = true) ∧ (∀ j, j < eg.cells.toList.length → w.frozen? ⟨b, oo + j, none⟩ = false) := fun hle => by
                    refine ⟨fun j hj => ?_, fun j hj => hbox.nf _ (by rw [← hxc.1] at hj; omega)⟩
                    have hlt : oo + j < v.cells.length := by rw [← hxc.1] at hj; omega
                    obtain ⟨y, hy, _⟩ := hbox.cell (oo + j) _ (List.getElem?_eq_getElem hlt)
                    exact Option.isSome_iff_exists.2 ⟨y, hy⟩
                  cases hb2 : (Nat.beq oo 0 && Nat.beq ti.sz v.cells.length) with
                  | true =>
                    rw [hb2] at h
                    simp only [cond_true] at h
                    simp only [Bool.and_eq_true, Nat.beq_eq] at hb2
                    obtain ⟨ho0, hvl⟩ := hb2
                    have hle : oo + x.cells.length ≤ v.cells.length := by omega
                    obtain ⟨c1, c2⟩ := cells hle
                    have happ : fxApp s.H [.setVar st ti.sz x] = hset s.H st (.box x true) := by simp only [fxApp, Fx.app, hg]
                    exact fin (off := oo) (by simp) h rfl c1 c2 (Ext.refl _ _) (by rw [happ]; exact hI.write hg trivial hm hphi (box hle (by rw [ho0, setCells_all (by omega)]))) (hG.write hm) (List.mem_cons_self ..) (by simp)
                  | false =>
                    rw [hb2] at h
                    simp only [cond_false] at h
                    cases hb3 : Nat.ble (oo + ti.sz) v.cells.length with
                    | false => rw [hb3] at h; exact h.no_fail.elim
                    | true =>
                      rw [hb3] at h
                      simp only [cond_true] at h
                      have hle : oo + x.cells.length ≤ v.cells.length := by rw [hxl]; exact Nat.le_of_ble_eq_true hb3
                      obtain ⟨c1, c2⟩ := cells hle
                      have happ : fxApp s.H [.setBox st oo x.cells] = hset s.H st (.box (setPart v oo x.cells) true) := by simp only [fxApp, Fx.app, hg]
                      exact fin (off := oo) (by simp) h rfl c1 c2 (Ext.refl _ _) (by rw [happ]; exact hI.write hg trivial hm hphi (box hle (setPart_cells hle hone))) (hG.write hm) (List.mem_cons_self ..) (by simp)
              · exact h.no_fail.elim
            · rename_i e xs wr rm hg
              cases wr with
              | false => exact h.no_fail.elim
              | true =>
                simp only [cond_true] at h
                split at h
                · rename_i x' L hcl
                  cases hmem : memS st L with
                  | true => rw [hmem] at h; exact h.no_fail.elim
                  | false =>
                    rw [hmem] at h
                    simp only [cond_false] at h
                    have hnL : st ∉ L := fun hc => by
                      have : memS st L = true := by
                        clear hmem hcl h
                        induction L with
                        | nil => cases hc
                        | cons q r ih =>
                          simp only [memS, Bool.or_eq_true, Site.eq_iff]
                          rcases List.mem_cons.1 hc with rfl | hc
                          · exact .inl rfl
                          · exact .inr (ih hc)
                      rw [this] at hmem; cases hmem
                    cases h with
                    | elem hv h =>
                      rename_i v
                      (try dsimp only at h)
                      obtain ⟨_, hcr⟩ := closeV_ok hI hcl hrx
                      have hcr := hcr (μ := m0) (L'' := L) (fun h => by cases h) (fun _ h => h)
                      have hxc' := hcr.cells (closeV_ne_top hcl)
                      have hI1 := hI.frz L
                      have hG1 := hG.frz L hI
                      have hg1 : hget (fxApp s.H (frzAll L)) st = some (.row e xs true rm) := by rw [hget_frz, hg]; simp [hnL]
                      rcases hI1.blk st _ hg1 with ⟨hn, _⟩ | ⟨b', size', hrow⟩
                      · rw [hm] at hn; cases hn
                      · have hl := hrow.loc
                        rw [hm] at hl
                        cases hl
                        have hphi := hrow.phi rfl
                        have hve := hrow.each _ _ hv
                        have hil : i < xs.length := (List.getElem?_eq_some_iff.1 hv).1
                        have hxl' : x'.cells.length = x.cells.length := by rw [hxc'.1, hxc.1]
                        have hie : i * esz + esz ≤ size' := by
                          have h2 : (i + 1) * esz ≤ xs.length * esz := Nat.mul_le_mul_right _ hil
                          have := hrow.len
                          rw [Nat.add_mul, Nat.one_mul] at h2
                          omega
                        have row : ∀ {v' : AV}, oo + x'.cells.length ≤ v.cells.length → v'.cells = setCells v.cells oo x'.cells → BlkOk (frzPhi Φ m w s.H L) m (w.setCells b (i * esz + oo) eg.cells.toList) st (.row esz (xs.set i v') true rm) := fun {v'} hle hv' => by
                          have hlen : v'.cells.length = esz := by rw [hv', setCells_len hle, hve]
                          have hlies0 : Lies (frzPhi Φ m w s.H L) m0 (cellsOf w) b (i * esz) v.cells := fun j c hc => hrow.cell i v j c hv hc
                          have hlies := hlies0.set (o := oo) hxc' hle
                          refine .inr ⟨b, size', ⟨by rw [List.length_set]; exact hrow.loc, hrow.pos, by rw [List.length_set]; exact hrow.len, by rw [setCells_shape]; exact hrow.shape, fun i' u hu => ?_, fun i' u j c hu hc => ?_, fun q hq => by rw [World.frozen?_setCells]; exact hrow.nf q hq, fun _ => hphi, fun q hq => absurd (hphi q) hq, fun i' u hu => ?_⟩⟩
                          · rw [List.getElem?_set] at hu
                            by_cases hii' : i = i'
                            · rw [if_pos hii', if_pos hil] at hu
                              cases hu; exact hlen
                            · rw [if_neg hii'] at hu
                              exact hrow.each i' u hu
                          · rw [List.getElem?_set] at hu
                            by_cases hne : i = i'
                            · rw [if_pos hne, if_pos hil] at hu
                              subst hne
                              cases hu
                              rw [hv'] at hc
                              exact hlies j c hc
                            · rw [if_neg hne] at hu
                              obtain ⟨y, hy, hyr⟩ := hrow.cell i' u j c hu hc
                              refine ⟨y, ?_, hyr⟩
                              rw [World.cell?_setCells_out b _ _ _ _ fun _ _ => ?_]
                              · exact hy
                              · show i' * esz + j < i * esz + oo ∨ i * esz + oo + eg.cells.toList.length ≤ i' * esz + j
                                have hj : j < esz := by rw [← hrow.each i' u hu]; exact (List.getElem?_eq_some_iff.1 hc).1
                                rw [← hxc'.1]
                                rcases Nat.lt_or_gt_of_ne hne with hlt | hgt
                                · right
                                  have : (i + 1) * esz ≤ i' * esz := Nat.mul_le_mul_right _ hlt
                                  rw [Nat.add_mul, Nat.one_mul] at this
                                  omega
                                · left
                                  have : (i' + 1) * esz ≤ i * esz := Nat.mul_le_mul_right _ hgt
                                  rw [Nat.add_mul, Nat.one_mul] at this
                                  omega
                          · rw [List.getElem?_set] at hu
                            by_cases hii' : i = i'
                            · rw [if_pos hii', if_pos hil] at hu
                              cases hu
                              rw [hv']
                              exact setCells_one hle (hrow.one i v hv) (closeV_cells hcl hone)
                            · rw [if_neg hii'] at hu
                              exact hrow.one i' u hu
                        have cells : oo + x'.cells.length ≤ v.cells.length → (∀ j, j < eg.cells.toList.length → (w.cell? ⟨b, i * esz + oo + j, none⟩).isSome = true) ∧ (∀ j, j < eg.cells.toList.length → w.frozen? ⟨b, i * esz + oo + j, none⟩ = false) := fun hle => by
                          refine ⟨fun j hj => ?_, fun j hj => hrow.nf _ (by rw [← hxc'.1] at hj; omega)⟩
                          have hlt : oo + j < v.cells.length := by rw [← hxc'.1] at hj; omega
                          obtain ⟨y, hy, _⟩ := hrow.cell i v (oo + j) _ hv (List.getElem?_eq_getElem hlt)
                          exact Option.isSome_iff_exists.2 ⟨y, by rw [Nat.add_assoc]; exact hy⟩
                        have happ : ∀ v', fxApp s.H (frzAll L ++ [.setRow st i v']) = hset (fxApp s.H (frzAll L)) st (.row esz (xs.set i v') true rm) := fun v' => by
                          rw [fxApp_append]
                          simp only [fxApp, Fx.app, hg1]
                        have hhit : ∀ v', st ∈ fxHit (frzAll L ++ [.setRow st i v']) := fun v' => by
                          rw [fxHit_append]; exact List.mem_append_right _ (List.mem_cons_self ..)
                        cases hb2 : (Nat.beq oo 0 && Nat.beq ti.sz v.cells.length) with
                        | true =>
                          rw [hb2] at h
                          simp only [cond_true] at h
                          simp only [Bool.and_eq_true, Nat.beq_eq] at hb2
                          obtain ⟨ho0, hvl⟩ := hb2
                          have hle : oo + x'.cells.length ≤ v.cells.length := by omega
                          obtain ⟨c1, c2⟩ := cells hle
                          exact fin (off := i * esz + oo) rfl h rfl c1 c2 (frzPhi_ext hI) (by rw [happ]; exact hI1.write hg1 trivial hm hphi (row hle (by rw [ho0, setCells_all (by omega)]))) (hG1.write hm) (hhit _) (by simp)
                        | false =>
                          rw [hb2] at h
                          simp only [cond_false] at h
                          cases hb3 : Nat.ble (oo + ti.sz) v.cells.length with
                          | false => rw [hb3] at h; exact h.no_fail.elim
                          | true =>
                            rw [hb3] at h
                            simp only [cond_true, spine_eq] at h
                            have hle : oo + x'.cells.length ≤ v.cells.length := by rw [hxl', hxl]; exact Nat.le_of_ble_eq_true hb3
                            obtain ⟨c1, c2⟩ := cells hle
                            exact fin (off := i * esz + oo) rfl h rfl c1 c2 (frzPhi_ext hI) (by rw [happ]; exact hI1.write hg1 trivial hm hphi (row hle rfl)) (hG1.write hm) (hhit _) (by simp)
                · exact h.no_fail.elim
            · exact h.no_fail.elim
        · exact h.no_fail.elim
    · exact h.no_fail.elim
  · exact h.no_fail.elim
end
end Go.Ab
