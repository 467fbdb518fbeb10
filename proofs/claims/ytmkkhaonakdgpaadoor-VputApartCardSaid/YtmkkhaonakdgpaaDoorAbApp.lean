/- Append. -/
import Derived.Test.YtmkkhaonakdgpaaDoorAbStore
import Derived.Laws.AppendOwn
namespace Go.Ab
open Go
section
variable {Φg : Phi} {α : Type} {X : Ctx} {fid : FuncId} {P : Program} {n : Nat} {draw : Bool} {s : St} {o : Oper} {k : Script → DT α} {Q : α → Prop} {a : Act} {w w' w₀ : World}
  {Φ Φ' Φ₀ : Phi} {m m' i₀ μ : LMap} {Qx : Exit → Act → World → Prop} {H : Heap} {tab : Tab}

def TwoOk (d : TypeDesc) : Prop := (∃ e, d = .slice e) ∨ d = .string
theorem app_room {t t2 ty e : TypeId} {d2 : TypeDesc} {i : TypeInfo} {b off len cap n : Nat} {yv : Value} {news : List Value} (hu : P.underlying t = some (.slice e)) (hu2 : P.underlying t2 = some d2) (h2 : TwoOk d2) (hi : P.info? e = some i)
    (hlen : (Builtin.lenOf yv).run P w = .ok n w) (hfc : (Builtin.firstCells i.size n yv).run P w = .ok news.toArray w) (hle : len + n ≤ cap) (hc : ∀ j, j < news.length → (w.cell? ⟨b, off + len * i.size + j, none⟩).isSome = true)
    (hf : ∀ j, j < news.length → w.frozen? ⟨b, off + len * i.size + j, none⟩ = false) (h1 : ∀ u ∈ news, u.oneCell' = true) :
    (Builtin.append_ #[t, t2] ty #[.slice (some ⟨b, off, none⟩) len cap, yv]).run P w = .ok (.slice (some ⟨b, off, none⟩) (len + n) cap) (w.setCells b (off + len * i.size) news) := by
  have hst := run_storeCells_cells (P := P) b (off + len * i.size) news 0 w (by simpa using hc) (by simpa using hf) h1
  simp only [Nat.add_zero] at hst
  rcases h2 with ⟨e2, rfl⟩ | rfl <;>
  simp [Builtin.append_, run_underlying hu, run_underlying hu2, sizeOf, typeInfo, hi, hlen, hle, hfc, Addr.add_lit, hst]
theorem app_nop {t t2 ty e : TypeId} {d2 : TypeDesc} {i : TypeInfo} {b : Option Addr} {len cap : Nat} {yv : Value} (hu : P.underlying t = some (.slice e)) (hu2 : P.underlying t2 = some d2) (h2 : TwoOk d2) (hi : P.info? e = some i)
    (hlen : (Builtin.lenOf yv).run P w = .ok 0 w) (hfc : (Builtin.firstCells i.size 0 yv).run P w = .ok #[] w) (hle : len ≤ cap) :
    (Builtin.append_ #[t, t2] ty #[.slice b len cap, yv]).run P w = .ok (.slice b len cap) w := by
  rcases h2 with ⟨e2, rfl⟩ | rfl <;>
  cases b <;> simp [Builtin.append_, run_underlying hu, run_underlying hu2, sizeOf, typeInfo, hi, hlen, hle, hfc, storeCells]
theorem app_grow {t t2 ty e : TypeId} {d2 : TypeDesc} {i : TypeInfo} {z : Value} {b : Option Addr} {len cap n : Nat} {yv : Value} {olds news : List Value} (hu : P.underlying t = some (.slice e)) (hu2 : P.underlying t2 = some d2) (h2 : TwoOk d2) (hi : P.info? e = some i)
    (hz : i.zero = some z) (hlen : (Builtin.lenOf yv).run P w = .ok n w) (hfc : (Builtin.firstCells i.size n yv).run P w.drew = .ok news.toArray w.drew) (hfo : (Builtin.firstCells i.size len (.slice b len cap)).run P w.drew = .ok olds.toArray w.drew)
    (hg : cap < len + n) (hby : (len + n) * i.bytes ≤ 140737488355328) (hb0 : 0 < i.bytes) :
    (Builtin.append_ #[t, t2] ty #[.slice b len cap, yv]).run P w = .ok (.slice (some ⟨w.heap.size, 0, none⟩) (len + n) (grownCap w (len + n) cap e))
      (w.drew.alloc (.cells (olds ++ news ++ (Builtin.zeroCells z.cells (grownCap w (len + n) cap e - (len + n))).toList).toArray e)) := by
  have hn : ¬ (len + n ≤ cap) := by omega
  have hsm : len + n ≤ 140737488355328 := by
    have : (len + n) * 1 ≤ (len + n) * i.bytes := Nat.mul_le_mul_left _ hb0
    omega
  have h63 : ¬ (9223372036854775807 < ((len : Int) + (n : Int))) := by omega
  have h48 : ¬ (281474976710656 < Builtin.nextslicecap (len + n) cap * i.bytes) := by have := growslice_fits hg hby; omega
  have happ : olds.toArray ++ (news.toArray ++ Builtin.zeroCells z.cells (grownCap w (len + n) cap e - (len + n))) = (olds ++ news ++ (Builtin.zeroCells z.cells (grownCap w (len + n) cap e - (len + n))).toList).toArray := by
    apply Array.ext'; simp
  rcases h2 with ⟨e2, rfl⟩ | rfl <;>
  · simp [Builtin.append_, run_underlying hu, run_underlying hu2, sizeOf, typeInfo, zeroValue, hi, hz, hlen, hn, h63, h48, Question.forced, hfo, hfc, newRow]
    exact ⟨rfl, by rw [← List.append_assoc, ← happ]; rfl⟩

theorem flat_inv : ∀ {xs : List AV} {e p : Nat} {c : AV}, (∀ u ∈ xs, u.cells.length = e) → (xs.flatMap AV.cells)[p]? = some c → ∃ i v j, xs[i]? = some v ∧ v.cells[j]? = some c ∧ p = i * e + j
  | [], e, p, c, _, h => by simp at h
  | u :: r, e, p, c, he, h => by
    rw [List.flatMap_cons] at h
    have hu := he u (List.mem_cons_self ..)
    by_cases hp : p < u.cells.length
    · rw [List.getElem?_append_left hp] at h
      exact ⟨0, u, p, rfl, h, by omega⟩
    · rw [List.getElem?_append_right (by omega)] at h
      obtain ⟨i, v, j, h1, h2, h3⟩ := flat_inv (fun v hv => he v (List.mem_cons_of_mem _ hv)) h
      exact ⟨i + 1, v, j, by simpa using h1, h2, by rw [Nat.add_mul, Nat.one_mul]; omega⟩

/-- What is appended. -/
theorem view_news {sz : Nat} {y : AV} {yv : Value} {q : List AV → Acc → DT α} (h : SatN X fid n (viewD s sz y q) Q) (hr : R Φ m y yv) (hI : Inv Φ m w s.H) :
    ∃ ys rd news, SatN X fid n (q ys rd) Q ∧ (∀ v ∈ ys, v.cells.length = sz ∧ allOneCell v.cells = true) ∧ Rs Φ m0 (ys.flatMap AV.cells) news ∧
      ∀ w1, KeepOn Φ m rd w w1 → (Builtin.lenOf yv).run P w1 = .ok ys.length w1 ∧ (Builtin.firstCells sz ys.length yv).run P w1 = .ok news.toArray w1 := by
  by_cases hs : ∃ b, y = .str b
  · obtain ⟨b, rfl⟩ := hs
    unfold viewD at h
    dsimp only at h
    cases hb : Nat.beq sz 1 with
    | false => rw [hb] at h; exact h.no_fail.elim
    | true =>
      rw [hb] at h
      rw [Nat.beq_eq] at hb
      subst hb
      cases hr with
      | str hs =>
        rename_i x
        have hlen : b.length = x.size := by rw [← hs, Array.length_toList]; rfl
        have hfl : ∀ l : List UInt8, (l.map fun c => AV.int .u8 c.toNat).flatMap AV.cells = l.map fun c => AV.int .u8 c.toNat := by
          intro l
          induction l with
          | nil => rfl
          | cons c r ih => simp only [List.map_cons, List.flatMap_cons, ih]; rfl
        have hrs : ∀ l : List UInt8, Rs Φ m0 (l.map fun c => AV.int .u8 c.toNat) (l.map fun c => Value.int .u8 c.toNat) := by
          intro l
          induction l with
          | nil => exact .nil
          | cons c r ih => exact .cons (.int _ _) ih
        refine ⟨_, _, b.map fun c => Value.int .u8 c.toNat, h, fun v hv => ?_, by rw [hfl]; exact hrs b, fun w1 _ => ⟨?_, ?_⟩⟩
        · obtain ⟨c, _, rfl⟩ := List.mem_map.1 hv
          exact ⟨rfl, rfl⟩
        · simp [Builtin.lenOf, hlen]
        · simp only [Builtin.firstCells, List.length_map, hlen, Sem.run_pure]
          congr 1
          apply Array.ext'
          rw [Array.toList_map, extract_list, hs]
          simp [List.take_of_length_le (Nat.le_of_eq hlen)]
  · obtain ⟨ys, rd, b, cap, C, h, rfl, hcap, hvw⟩ := viewD_ok h hr hI (fun b hb => hs ⟨b, hb⟩)
    have heach : ∀ v ∈ ys, v.cells.length = sz := fun v hv => (hvw.each v hv).1
    rcases hvw.lies with hnil | ⟨bl, off, rfl, hl⟩
    · subst hnil
      refine ⟨_, _, [], h, hvw.each, .nil, fun w1 _ => ⟨rfl, ?_⟩⟩
      cases b with
      | none => simp [Builtin.firstCells]
      | some ad => exact run_firstCells_some w1 sz 0 ad _ cap [] (by simp) (fun j v hj => by simp at hj)
    · have hlies : Lies Φ m0 C bl off (ys.flatMap AV.cells) := fun p c hp => by
        obtain ⟨i, v, j, h1, h2, rfl⟩ := flat_inv heach hp
        obtain ⟨y, hy, hyr⟩ := hl i v j c h1 h2
        exact ⟨y, by rw [← Nat.add_assoc]; exact hy, hyr⟩
      obtain ⟨news, h1, h2⟩ := hlies.list
      refine ⟨_, _, news, h, hvw.each, h1, fun w1 hk => ⟨rfl, ?_⟩⟩
      refine run_firstCells_some w1 sz ys.length _ _ cap news ?_ (fun j v hj => ?_)
      · rw [← h1.1, flat_len heach]
      · rw [addr_add]
        exact hvw.keep w1 hk _ _ _ (h2 j v hj)

/-- A row handed on to another name, in place or in a new block. -/
theorem Inv.drop {st : Site} {B0 : Blk} (hI : Inv Φ m w H) (hg : hget H st = some B0) : Inv Φ m w (hset H st .gone) := by
  have key : ∀ {s C}, hget (hset H st .gone) s = some C → C.live → hget H s = some C := fun {s C} hC hl => by
    by_cases h : st = s
    · subst h; rw [hget_hset_same hg] at hC; cases hC; exact hl.elim
    · rw [hget_hset_ne h] at hC; exact hC
  refine ⟨hI.phi, fun s B hB => ?_, fun s hs => ?_, fun s1 s2 B1 B2 b e z e' z' h1 h2 l1 l2 hm1 hm2 => hI.inj _ _ _ _ _ _ _ _ _ (key h1 l1) (key h2 l2) l1 l2 hm1 hm2, hI.lt⟩
  · by_cases h : st = s
    · subst h; rw [hget_hset_same hg] at hB; cases hB; trivial
    · rw [hget_hset_ne h] at hB; exact hI.blk s B hB
  · by_cases h : st = s
    · subst h; rw [hget_hset_same hg] at hs; cases hs
    · rw [hget_hset_ne h] at hs; exact hI.map s hs
theorem hget_drop_none {st s : Site} {B0 : Blk} (hg : hget H st = some B0) (h : hget H s = none) : hget (hset H st .gone) s = none := by
  have hne : st ≠ s := by rintro rfl; rw [hg] at h; cases h
  rw [hget_hset_ne hne]; exact h

theorem Inv.moved {st dst : Site} {B0 B : Blk} {b e : Nat} {z z' : Nat × Nat} (hI : Inv Φ m w H) (hg : hget H st = some B0) (hl : B0.live) (hm : m st = .at b e z) (hd : hget H dst = none)
    (hsame : ∀ c, c ≠ b → w'.heap[c]? = w.heap[c]?) (hsize : w'.heap.size = w.heap.size) (hphi : ∀ o x, Φ b o = some x → w'.cell? ⟨b, o, none⟩ = some x) (hB : BlkOk Φ (upd m dst (.at b e z')) w' dst B) :
    Inv Φ (upd m dst (.at b e z')) w' ((dst, B) :: hset H st .gone) := by
  have hds : dst ≠ st := by rintro rfl; rw [hg] at hd; cases hd
  have hmd := hI.map dst hd
  have hS : ∀ c, c ≠ b → Same Φ Φ w w' c := fun c hc => by
    have hh := hsame c hc
    exact ⟨fun o => by simp only [World.cell?, hh], fun o => by simp only [World.frozen?, hh], by simp only [World.shape?, hh], fun _ => rfl⟩
  have old : ∀ {s C}, dst ≠ s → hget ((dst, B) :: hset H st .gone) s = some C → C.live → hget H s = some C ∧ s ≠ st := fun {s C} hs hC hlc => by
    rw [hget_cons_ne _ _ hs] at hC
    by_cases h : st = s
    · subst h; rw [hget_hset_same hg] at hC; cases hC; exact hlc.elim
    · rw [hget_hset_ne h] at hC; exact ⟨hC, Ne.symm h⟩
  refine ⟨fun c o x hx => ?_, fun s C hC => ?_, fun s hs => ?_, fun s1 s2 B1 B2 b1 e1 z1 e2 z2 h1 h2 l1 l2 hm1 hm2 => ?_, fun s c e1 z1 hc => ?_⟩
  · by_cases hcb : c = b
    · subst hcb; exact hphi o x hx
    · rw [(hS c hcb).cell]; exact hI.phi c o x hx
  · by_cases hs : dst = s
    · subst hs; rw [hget_cons_same] at hC; cases hC; exact hB
    · by_cases hlc : C.live
      · obtain ⟨h1, h2⟩ := old hs hC hlc
        refine (hI.blk s C h1).keep (upd_ne _ _ (Ne.symm hs)) (Ext.upd hmd) fun c e' z' hc => hS c ?_
        rintro rfl
        exact h2 (hI.inj _ _ _ _ _ _ _ _ _ h1 hg hlc hl hc hm)
      · cases C <;> first | exact absurd trivial hlc | trivial
  · by_cases h : dst = s
    · subst h; rw [hget_cons_same] at hs; cases hs
    · rw [hget_cons_ne _ _ h] at hs
      rw [upd_ne _ _ (Ne.symm h)]
      by_cases h' : st = s
      · subst h'; rw [hget_hset_same hg] at hs; cases hs
      · rw [hget_hset_ne h'] at hs; exact hI.map s hs
  · by_cases hs1 : dst = s1
    · by_cases hs2 : dst = s2
      · rw [← hs1, ← hs2]
      · rw [← hs1, upd_same] at hm1
        rw [upd_ne _ _ (Ne.symm hs2)] at hm2
        cases hm1
        obtain ⟨k1, k2⟩ := old hs2 h2 l2
        exact absurd (hI.inj _ _ _ _ _ _ _ _ _ k1 hg l2 hl hm2 hm) k2
    · rw [upd_ne _ _ (Ne.symm hs1)] at hm1
      obtain ⟨k1, k2⟩ := old hs1 h1 l1
      by_cases hs2 : dst = s2
      · rw [← hs2, upd_same] at hm2
        cases hm2
        exact absurd (hI.inj _ _ _ _ _ _ _ _ _ k1 hg l1 hl hm1 hm) k2
      · rw [upd_ne _ _ (Ne.symm hs2)] at hm2
        obtain ⟨j1, j2⟩ := old hs2 h2 l2
        exact hI.inj _ _ _ _ _ _ _ _ _ k1 j1 l1 l2 hm1 hm2
  · rw [hsize]
    by_cases hs : s = dst
    · subst hs; rw [upd_same] at hc; cases hc; exact hI.lt _ _ _ _ hm
    · rw [upd_ne _ _ hs] at hc; exact hI.lt _ _ _ _ hc
theorem Glob.moved {st dst : Site} {b e : Nat} {z z' : Nat × Nat} (hG : Glob Φg Φ₀ i₀ w₀ Φ m w) (hm : m st = .at b e z) (hmd : m dst = .none) : Glob Φg Φ₀ i₀ w₀ Φ (upd m dst (.at b e z')) w := by
  refine ⟨hG.phi, hG.phiNew, fun i c e1 z1 h => ?_, fun s c e1 z1 h => ?_, hG.same, hG.size, hG.os, hG.out, hG.tape, hG.base⟩
  · have := hG.inc i c e1 z1 h
    rw [upd_ne]
    · exact this
    · intro he; rw [he, hmd] at this; cases this
  · by_cases hs : s = dst
    · subst hs; rw [upd_same] at h; cases h; exact hG.own _ _ _ _ hm
    · rw [upd_ne _ _ hs] at h; exact hG.own _ _ _ _ h

theorem shape_cell {w : World} {b size q : Nat} {t : TypeId} (h : w.shape? b = some (t, size)) (hq : q < size) : (w.cell? ⟨b, q, none⟩).isSome = true := by
  unfold World.shape? at h
  unfold World.cell?
  split at h
  · rename_i c el fr hb
    cases h
    simp only [hb]
    simp [hq]
  · cases h

theorem zeroFits_ok (hP : TabOK P tab) {cfg : Cfg} (hc : cfg.tab = tab) {e : TypeId} {te : TI} (hte : cfg.tab.get e = some te) (h : zeroFits te = true) : ∃ i zv, P.info? e = some i ∧ i.size = te.sz ∧ i.bytes = te.bytes ∧ i.zero = some zv ∧ zv.cells.size = te.sz := by
  obtain ⟨i, d, hi, hsz, hby, _, _, _, hz, _⟩ := hP.get (hc ▸ hte)
  unfold zeroFits at h
  split at h
  · rename_i z hzz
    rw [Nat.beq_eq] at h
    obtain ⟨v, h1, h2⟩ := hz z hzz
    have := ((R.value (Φ := fun _ _ => none) (m := m0) h2).cells (fun e => ofValue_ne_top (e ▸ h2))).1
    exact ⟨i, v, hi, hsz, hby, h1, by rw [h] at this; simpa using this.symm⟩
  · cases h

theorem R.sref_inv {st : Site} {lo len : Nat} {x : Value} (h : R Φ m (.sref st lo len) x) : (∃ a, len = 0 ∧ x = .slice a 0 0) ∨
    ∃ cap b esz z1 z2, m st = .at b esz (z1, z2) ∧ len ≤ cap ∧ (lo + cap) * esz ≤ z1 ∧ lo + len ≤ z2 ∧ x = .slice (some ⟨b, lo * esz, none⟩) len cap := by
  cases h with
  | sref0 => exact .inl ⟨_, rfl, rfl⟩
  | sref h1 h2 h3 h4 => exact .inr ⟨_, _, _, _, _, h1, h2, h3, h4, rfl⟩

set_option maxHeartbeats 2000000 in
theorem op_append (hP : TabOK P tab) (hX : X.cfg.tab = tab) {c : Call} (hop : o.op = .call c) (hc : c.callee = .builtin .append) (h : SatN X fid n (opR X.cfg draw s o k) Q) (hT : RT Φ m s.T a.tmps)
    (hI : Inv Φ m w s.H) (hG : Glob Φg Φ₀ i₀ w₀ Φ m w) : o.wp P a w (After P Φg X fid n k Q Φ₀ i₀ w₀ o s a w Φ m) Qx := by
  unfold opR at h
  rw [hop] at h
  dsimp only at h
  split at h
  · exact h.no_fail.elim
  · rename_i args hargs
    rw [hc] at h
    dsimp only at h
    have hra := opnds_eval (a := a) hT hargs
    unfold builtinD at h
    split at h
    · rename_i hbi; cases hbi
    · rename_i x y _
      split at h
      · rename_i t t2 d hats hdst
        obtain ⟨xv, r1, hr1, hrx, hr2⟩ := hra.inv_cons
        obtain ⟨yv, r2, rfl, hry, hr3⟩ := hr2.inv_cons
        rw [hr3.inv_nil] at hr1
        have hargs' : c.args.map a.eval = #[xv, yv] := by apply Array.ext'; simpa using hr1
        have hats' : c.argTypes = #[t, t2] := by apply Array.ext'; simpa using hats
        have two : ∃ d2, P.underlying t2 = some d2 ∧ TwoOk d2 ∧ SatN X fid n (appendD X.cfg s d t x y k) Q := by
          split at h
          · rename_i sz_ ag_ e2 fl_ ze_ by_ cm_ ht2
            obtain ⟨ii, dd, hii, _, _, hu, hsh, _⟩ := hP.get (hX ▸ ht2)
            have hd := shOk_slice hsh rfl
            subst hd
            exact ⟨_, hu, .inl ⟨_, rfl⟩, h⟩
          · rename_i sz_ ag_ fl_ ze_ by_ cm_ ht2
            obtain ⟨ii, dd, hii, _, _, hu, hsh, _⟩ := hP.get (hX ▸ ht2)
            have hd := shOk_string hsh rfl
            subst hd
            exact ⟨_, hu, .inr rfl, h⟩
          · exact h.no_fail.elim
        clear h
        obtain ⟨d2, hu2, h2, h⟩ := two
        have hexec : ∀ {res : Result Value}, (Builtin.append_ #[t, t2] o.type #[xv, yv]).run P w = res → (execOp a.eval o).run P w = res.andThen fun v w' => .ok (.value v) w' := fun {res} hr => by
          simp only [execOp, hop, resolve, hc, Sem.run_bind, Sem.run_pure, Result.andThen_ok, invoke, builtin, hargs', hats', hr]
        unfold appendD at h
        split at h
        · rename_i sz_ ag_ e fl_ ze_ by_ cm_ ht
          obtain ⟨ii, dd, hii, _, _, hu, hsh, _⟩ := hP.get (hX ▸ ht)
          have hd := shOk_slice hsh rfl
          subst hd
          split at h
          · rename_i te hte
            cases hb : (Nat.blt 0 te.sz && Nat.blt 0 te.bytes && zeroFits te) with
            | false => rw [hb] at h; exact h.no_fail.elim
            | true =>
              rw [hb] at h
              simp only [cond_true] at h
              simp only [Bool.and_eq_true] at hb
              obtain ⟨⟨hpos, hbpos⟩, hzf⟩ := hb
              have hpos : 0 < te.sz := by simpa using hpos
              have hbpos : 0 < te.bytes := by simpa using hbpos
              obtain ⟨ie, zv, hie, hsze, hbye, hz, hzs⟩ := zeroFits_ok hP hX hte hzf
              obtain ⟨ys, rd, news, h, hys, hnews, hyr⟩ := view_news (P := P) h hry hI
              have hyw := hyr w (KeepOn.refl hI)
              have hyd := hyr w.drew ⟨hI.phi, fun _ _ _ _ _ _ _ _ => rfl⟩
              have hye : ∀ v ∈ ys, v.cells.length = te.sz := fun v hv => (hys v hv).1
              have hnl : news.length = ys.length * te.sz := by rw [← hnews.1, flat_len hye]
              -- a new block
              have grow : ∀ {b : Option Addr} {cap len : Nat} {olds : List Value} {zs : List AV} {wr : Bool} {H1 : Heap} {fx : List Fx} {rd' : Acc}, xv = .slice b len cap → cap < len + ys.length → (len + ys.length) * te.bytes ≤ 140737488355328 →
                  zs.length = len → (∀ v ∈ zs, v.cells.length = te.sz ∧ allOneCell v.cells = true) → Rs Φ m0 (zs.flatMap AV.cells) olds → (Builtin.firstCells te.sz len xv).run P w.drew = .ok olds.toArray w.drew →
                  Inv Φ m w H1 → hget H1 (.tmp d) = none → fxApp s.H fx = (.tmp d, .row te.sz (zs ++ ys) wr true) :: H1 → fx ≠ [] → SatN X fid n (k ⟨.sref (.tmp d) 0 (len + ys.length), fx, rd'⟩) Q → o.wp P a w (After P Φg X fid n k Q Φ₀ i₀ w₀ o s a w Φ m) Qx := by
                intro b cap len olds zs wr H1 fx rd' hxv hg hby hzl hzs' holds hfo hI1 hd1 hfx hne hs
                subst hxv
                have hrun := app_grow (ty := o.type) (w := w) (P := P) (t := t) (t2 := t2) hu hu2 h2 hie hz hyw.1 (by rw [hsze]; exact hyd.2) (by rw [hsze]; exact hfo) hg (by rw [hbye]; exact hby) (by rw [hbye]; exact hbpos)
                have hcapge := grownCap_ge w (len + ys.length) cap e
                generalize grownCap w (len + ys.length) cap e = cap' at hrun hcapge
                generalize hcs : (olds ++ news ++ (Builtin.zeroCells zv.cells (cap' - (len + ys.length))).toList).toArray = cs at hrun
                have hzye : ∀ u ∈ zs ++ ys, u.cells.length = te.sz := fun u hu => by
                  rcases List.mem_append.1 hu with hu | hu
                  · exact (hzs' u hu).1
                  · exact hye u hu
                have hzy1 : ∀ u ∈ zs ++ ys, allOneCell u.cells = true := fun u hu => by
                  rcases List.mem_append.1 hu with hu | hu
                  · exact (hzs' u hu).2
                  · exact (hys u hu).2
                have hol : olds.length = len * te.sz := by rw [← holds.1, flat_len fun v hv => (hzs' v hv).1, hzl]
                have hflat : Rs Φ m0 ((zs ++ ys).flatMap AV.cells) (olds ++ news) := by rw [List.flatMap_append]; exact holds.append hnews
                have hcsz : cs.size = cap' * te.sz := by
                  rw [← hcs]
                  simp only [List.size_toArray, List.length_append, Array.length_toList, size_zeroCells, hzs, hol, hnl]
                  rw [← Nat.add_mul, ← Nat.add_mul]
                  congr 1; omega
                have htake : cs.toList.take ((zs ++ ys).length * te.sz) = olds ++ news := by
                  rw [← hcs]
                  simp only
                  rw [List.take_left']
                  rw [List.length_append, List.length_append, hol, hnl, hzl, Nat.add_mul]
                have hlen2 : (zs ++ ys).length = len + ys.length := by rw [List.length_append, hzl]
                unfold Oper.wp
                rw [hexec hrun]
                refine ⟨Φ, upd m (.tmp d) (.at w.heap.size te.sz (cs.size, (zs ++ ys).length)), ⟨.sref (.tmp d) 0 (len + ys.length), fx, rd'⟩, _, hs, ?_, rfl, Ext.upd (hI1.map _ hd1), ?_, ?_, fun b' hb' _ => ?_, fun h => absurd h hne⟩
                · rw [hlen2]
                  exact sref_new' hcapge (by rw [hcsz]; exact Nat.le_refl _)
                · rw [hfx]
                  exact (hI1.drawn (w.drawn + 1)).alloc hd1 (row_new (w := { w with drawn := w.drawn + 1 }) hpos hzye hzy1 (by rw [htake]; exact hflat) (fun q => hI.phi_new q))
                · exact (hG.drawn (w.drawn + 1)).alloc (hI1.map _ hd1)
                · show (w.heap.push _)[b']? = _
                  rw [Array.getElem?_push, if_neg (Nat.ne_of_lt hb')]
              split at h
              · -- nothing yet
                obtain ⟨hcond, h⟩ := h.node_inv
                have hby := of_decide_eq_true hcond
                obtain ⟨hd1, h⟩ := h.noSite_inv
                cases hrx with
                | nils =>
                  rename_i b
                  by_cases hn0 : ys.length = 0
                  · obtain rfl : ys = [] := List.eq_nil_of_length_eq_zero hn0
                    obtain rfl : news = [] := List.eq_nil_of_length_eq_zero (by rw [hnl]; simp)
                    have hrun := app_nop (ty := o.type) (w := w) (P := P) (b := b) (len := 0) (cap := 0) hu hu2 h2 hie hyw.1 (by rw [hsze]; exact hyw.2) (Nat.le_refl _)
                    unfold Oper.wp
                    rw [hexec hrun]
                    exact ⟨Φ, m, ⟨.sref (.tmp d) 0 0, _, _⟩, _, h, .sref0, rfl, Ext.refl _ _, hI.nil (hI.map _ hd1), hG, fun _ _ _ => rfl, fun h => by cases h⟩
                  · refine grow (olds := []) (zs := []) (wr := true) (H1 := s.H) (len := 0) (fx := [.alloc (.tmp d) (.row te.sz ys true true)]) rfl (by omega) (by simpa [roomMost] using hby) rfl (fun v hv => by cases hv) .nil ?_ hI hd1 rfl (by simp) (by simpa using h)
                    cases b with
                    | none => simp [Builtin.firstCells]
                    | some ad => exact run_firstCells_some w.drew te.sz 0 ad 0 0 [] (by simp) (fun j v hj => by simp at hj)
              · rename_i st lo len _
                split at h
                · rename_i e' xs wr rm hg
                  cases hb2 : (rm && (Nat.beq e' te.sz || Nat.beq e' 0)) with
                  | false => rw [hb2] at h; exact h.no_fail.elim
                  | true =>
                    rw [hb2] at h
                    simp only [cond_true] at h
                    simp only [Bool.and_eq_true, Bool.or_eq_true, Nat.beq_eq] at hb2
                    obtain ⟨_, he'⟩ := hb2
                    obtain ⟨hcond, h⟩ := h.node_inv
                    have hby := of_decide_eq_true hcond
                    split at h
                    · -- from the start of the row
                      have main : len ≤ xs.length → (len = xs.length ∨ wr = true) → hget s.H (.tmp d) = none →
                          SatN X fid n (k ⟨.sref (.tmp d) 0 (len + ys.length), [.drop st, .alloc (.tmp d) (.row te.sz (xs.take len ++ ys) wr true)], (st, none) :: rd⟩) Q → o.wp P a w (After P Φg X fid n k Q Φ₀ i₀ w₀ o s a w Φ m) Qx := by
                        intro hle hor hd1 hs
                        have hI1 := hI.drop hg
                        have hd2 := hget_drop_none hg hd1
                        rcases hrx.sref_inv with ⟨b, rfl, rfl⟩ | ⟨cap, b, esz, z1, z2, hm, g1, g2, g3, rfl⟩
                        · by_cases hn0 : ys.length = 0
                          · obtain rfl : ys = [] := List.eq_nil_of_length_eq_zero hn0
                            obtain rfl : news = [] := List.eq_nil_of_length_eq_zero (by rw [hnl]; simp)
                            have hrun := app_nop (ty := o.type) (w := w) (P := P) (b := b) (len := 0) (cap := 0) hu hu2 h2 hie hyw.1 (by rw [hsze]; exact hyw.2) (Nat.le_refl _)
                            unfold Oper.wp
                            rw [hexec hrun]
                            exact ⟨Φ, m, ⟨.sref (.tmp d) 0 0, _, _⟩, _, hs, .sref0, rfl, Ext.refl _ _, hI1.nil (hI.map _ hd1), hG, fun _ _ _ => rfl, fun h => by cases h⟩
                          · refine grow (olds := []) (zs := xs.take 0) (wr := wr) (H1 := hset s.H st .gone) (len := 0) rfl (by omega) (by simpa [roomMost] using hby) (by simp) (fun v hv => by simp at hv) (by simpa using Rs.nil) ?_ hI1 hd2 rfl (by simp) hs
                            cases b with
                            | none => simp [Builtin.firstCells]
                            | some ad => exact run_firstCells_some w.drew te.sz 0 ad 0 0 [] (by simp) (fun j v hj => by simp at hj)
                        · rcases hI.blk _ _ hg with ⟨hn, _⟩ | ⟨b', size', hrow⟩
                          · rw [hm] at hn; cases hn
                          · have hl := hrow.loc
                            rw [hm] at hl
                            cases hl
                            have hee : e' = te.sz := he'.resolve_right (fun h0 => by have := hrow.pos; omega)
                            subst hee
                            have hmem : ∀ {i v}, (xs.take len)[i]? = some v → xs[i]? = some v := fun {i v} hi => by
                              rw [List.getElem?_take] at hi
                              split at hi
                              · exact hi
                              · cases hi
                            have hxe : ∀ v ∈ xs.take len, v.cells.length = te.sz ∧ allOneCell v.cells = true := fun v hv => by
                              obtain ⟨i, hi⟩ := List.getElem?_of_mem hv
                              exact ⟨hrow.each _ _ (hmem hi), hrow.one _ _ (hmem hi)⟩
                            have htl : (xs.take len).length = len := by rw [List.length_take]; omega
                            by_cases hroom : len + ys.length ≤ cap
                            · -- in place
                              have h1c : ∀ u ∈ news, u.oneCell' = true := one_cells hnews (allOne_iff.2 fun v hv => by
                                obtain ⟨u, hu1, hu2⟩ := List.mem_flatMap.1 hv
                                exact allOne_iff.1 (hys u hu1).2 v hu2)
                              obtain ⟨tt, hsh⟩ := hrow.shape
                              have hfit : (len + ys.length) * te.sz ≤ z1 := by
                                have : (len + ys.length) * te.sz ≤ cap * te.sz := Nat.mul_le_mul_right _ hroom
                                simp only [Nat.zero_add] at g2
                                omega
                              rw [Nat.add_mul] at hfit
                              have hrun := app_room (ty := o.type) (w := w) (P := P) (b := b) (off := 0 * te.sz) (len := len) (cap := cap) hu hu2 h2 hie hyw.1 (by rw [hsze]; exact hyw.2) hroom
                                (fun j hj => by rw [hsze]; exact shape_cell hsh (by rw [hnl] at hj; omega)) (fun j hj => by rw [hsze]; exact hrow.nf _ (by rw [hnl] at hj; omega)) h1c
                              rw [hsze, Nat.zero_mul, Nat.zero_add] at hrun
                              have hrun' : (Builtin.append_ #[t, t2] o.type #[.slice (some ⟨b, 0 * te.sz, none⟩) len cap, yv]).run P w = .ok (.slice (some ⟨b, 0 * te.sz, none⟩) (len + ys.length) cap) (w.setCells b (len * te.sz) news) := by rw [Nat.zero_mul]; exact hrun
                              have hout : ∀ q, q < len * te.sz → (w.setCells b (len * te.sz) news).cell? ⟨b, q, none⟩ = w.cell? ⟨b, q, none⟩ := fun q hq => World.cell?_setCells_out b _ _ _ _ fun _ _ => .inl hq
                              have hphi : ∀ q y, Φ b q = some y → q < len * te.sz := fun q y hy => by
                                rcases hor with hor | hor
                                · rw [hor]; exact hrow.room q (by rw [hy]; exact fun h => by cases h)
                                · rw [hrow.phi hor q] at hy; cases hy
                              unfold Oper.wp
                              rw [hexec hrun']
                              refine ⟨Φ, upd m (.tmp d) (.at b te.sz (z1, len + ys.length)), ⟨.sref (.tmp d) 0 (len + ys.length), _, _⟩, _, hs, ?_, rfl, Ext.upd (hI.map _ hd1), ?_, (hG.write hm).moved hm (hI.map _ hd1), ?_, fun h => by cases h⟩
                              · have := R.sref (Φ := Φ) (m := upd m (.tmp d) (.at b te.sz (z1, len + ys.length))) (s := .tmp d) (lo := 0) (len := len + ys.length) (cap := cap) (upd_same _ _ _) hroom g2 (by simp)
                                simpa using this
                              · refine hI.moved hg trivial hm hd1 (fun c hc => setCells_other hc _ _ _) (setCells_size _ _ _) (fun q y hy => by rw [hout q (hphi q y hy)]; exact hI.phi _ _ _ hy) ?_
                                refine .inr ⟨b, z1, ⟨by rw [upd_same, List.length_append, htl], hpos, by rw [List.length_append, htl, Nat.add_mul]; exact hfit, ⟨tt, by rw [setCells_shape]; exact hsh⟩, fun i v hv => ?_, fun i v j cc hv hcc => ?_, fun q hq => by rw [World.frozen?_setCells]; exact hrow.nf q hq, hrow.phi, fun q hq => ?_, fun i v hv => ?_⟩⟩
                                · rcases List.mem_append.1 (List.mem_of_getElem? hv) with hv | hv
                                  · exact (hxe v hv).1
                                  · exact hye v hv
                                · by_cases hi : i < len
                                  · rw [List.getElem?_append_left (by omega)] at hv
                                    obtain ⟨y, hy, hyr'⟩ := hrow.cell i v j cc (hmem hv) hcc
                                    refine ⟨y, ?_, hyr'⟩
                                    have hj : j < te.sz := by rw [← hrow.each i v (hmem hv)]; exact (List.getElem?_eq_some_iff.1 hcc).1
                                    have : (i + 1) * te.sz ≤ len * te.sz := Nat.mul_le_mul_right _ hi
                                    rw [Nat.add_mul, Nat.one_mul] at this
                                    rw [hout _ (by omega)]
                                    exact hy
                                  · rw [List.getElem?_append_right (by omega), htl] at hv
                                    obtain ⟨y, hy, hyr'⟩ := hnews.2 _ _ (flat_at hye hv hcc)
                                    refine ⟨y, ?_, hyr'⟩
                                    have hlt : (i - len) * te.sz + j < news.length := (List.getElem?_eq_some_iff.1 hy).1
                                    have := World.cell?_setCells_in b news (len * te.sz) w (fun q hq => shape_cell hsh (by rw [hnl] at hq; omega)) _ hlt
                                    have hix : i * te.sz + j = len * te.sz + ((i - len) * te.sz + j) := by
                                      have : i * te.sz = len * te.sz + (i - len) * te.sz := by rw [← Nat.add_mul]; congr 1; omega
                                      omega
                                    rw [hix, this]
                                    exact congrArg some (List.getElem?_eq_some_iff.1 hy).2
                                · rw [List.length_append, htl, Nat.add_mul]
                                  cases hq' : Φ b q with
                                  | none => exact absurd hq' hq
                                  | some y => have := hphi q y hq'; omega
                                · rcases List.mem_append.1 (List.mem_of_getElem? hv) with hv | hv
                                  · exact (hxe v hv).2
                                  · exact (hys v hv).2
                              · intro c hcs hh
                                exact setCells_other (fun hcb => hh st (List.mem_cons_self ..) _ _ (by rw [hcb]; exact hm)) _ _ _
                            · -- in a new block
                              have hlies : Lies Φ m0 (cellsOf w) b 0 ((xs.take len).flatMap AV.cells) := fun p cc hp => by
                                obtain ⟨i, v, j, h1, h2, rfl⟩ := flat_inv (fun v hv => (hxe v hv).1) hp
                                obtain ⟨y, hy, hyr'⟩ := hrow.cell i v j cc (hmem h1) h2
                                exact ⟨y, by rw [Nat.zero_add]; exact hy, hyr'⟩
                              obtain ⟨olds, ho1, ho2⟩ := hlies.list
                              refine grow (olds := olds) (zs := xs.take len) (wr := wr) (H1 := hset s.H st .gone) rfl (by omega) (by simpa [roomMost] using hby) htl hxe ho1 ?_ hI1 hd2 rfl (by simp) hs
                              refine run_firstCells_some w.drew te.sz len _ _ cap olds ?_ (fun j v hj => ?_)
                              · rw [← ho1.1, flat_len fun v hv => (hxe v hv).1, htl]
                              · have := ho2 j v hj
                                rw [addr_add, Nat.zero_mul]
                                exact this
                      cases h with
                      | nodeT hc1 h =>
                        have hlen := of_decide_eq_true hc1
                        obtain ⟨hd1, h⟩ := h.noSite_inv
                        refine main (by omega) (.inl hlen) hd1 ?_
                        rw [hlen, List.take_length, ← hlen]
                        exact h
                      | nodeF hc1 h =>
                        obtain ⟨hc2, h⟩ := h.node_inv
                        simp only [Bool.and_eq_true] at hc2
                        obtain ⟨hd1, h⟩ := h.noSite_inv
                        exact main (of_decide_eq_true hc2.2) (.inr hc2.1) hd1 h
                    · exact h.no_fail.elim
                · exact h.no_fail.elim
              · exact h.no_fail.elim
          · exact h.no_fail.elim
        · exact h.no_fail.elim
      · exact h.no_fail.elim
    · rename_i hbi; cases hbi
    · rename_i hbi; cases hbi
    · exact h.no_fail.elim
end
end Go.Ab
