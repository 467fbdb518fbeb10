/- What slices.Delete and slices.Insert leave: cells written over, as rows. -/
import Derived.Test.YtmppanboolejjaaAbStart
import Derived.WalkKit
import Derived.ProofKit
import Derived.Lib.SliceRun
import Derived.Shelf.RegionOpenPlain
import Derived.Lib.Walk
import Derived.Deep.RegionLaw
namespace Go.Ab
open Go Go.Proofs
section
variable {P : Program} {w : World} {Φ Φ₀ : Phi} {m i₀ : LMap} {w₀ : World}
theorem run_clear_cells {t e ty : TypeId} {z : Value} {zs : List Value} {b off n cap : Nat} (ht : P.underlying t = some (.slice e)) (hz : ∀ w, (zeroValue e).run P w = .ok z w) (hn : 0 < n) (hzs : (Builtin.zeroCells z.cells n).toList = zs)
    (hc : ∀ j, j < zs.length → (w.cell? ⟨b, off + j, none⟩).isSome = true) (hf : ∀ j, j < zs.length → w.frozen? ⟨b, off + j, none⟩ = false) (h1 : ∀ u ∈ zs, u.oneCell' = true) :
    (Builtin.clear_ #[t] ty #[.slice (some ⟨b, off, none⟩) n cap]).run P w = .ok (.tuple #[]) (w.setCells b off zs) := by
  have hst := run_storeCells_cells (P := P) b off zs 0 w (by simpa using hc) (by simpa using hf) h1
  simp only [Nat.add_zero] at hst
  obtain ⟨k, rfl⟩ : ∃ k, n = k + 1 := ⟨n - 1, by omega⟩
  simp [Builtin.clear_, run_underlying ht, hz, hzs, hst]
theorem run_copy_many {t t' e ty : TypeId} {i : TypeInfo} {b off dl dc sl sc : Nat} {sa : Addr} {vs : List Value} {n : Nat} (ht : P.underlying t = some (.slice e)) (hi : P.info? e = some i) (hn : Nat.min sl dl = n) (hvl : vs.length = n * i.size)
    (hs : ∀ j v, vs[j]? = some v → w.cell? (sa.add j) = some v)
    (hc : ∀ j, j < vs.length → (w.cell? ⟨b, off + j, none⟩).isSome = true) (hf : ∀ j, j < vs.length → w.frozen? ⟨b, off + j, none⟩ = false) (h1 : ∀ u ∈ vs, u.oneCell' = true) :
    (Builtin.copy_ #[t, t'] ty #[.slice (some ⟨b, off, none⟩) dl dc, .slice (some sa) sl sc]).run P w = .ok (goInt n) (w.setCells b off vs) := by
  have hst := run_storeCells_cells (P := P) b off vs 0 w (by simpa using hc) (by simpa using hf) h1
  simp only [Nat.add_zero] at hst
  have hfc := run_firstCells_some (P := P) w i.size n sa sl sc vs hvl hs
  simp [Builtin.copy_, run_underlying ht, Builtin.lenOf, hn, sizeOf, typeInfo, hi, hfc, hst]
/-- The same elements, written over from one on. -/
def over (xs : List AV) (p : Nat) (ys : List AV) : List AV := xs.take p ++ ys ++ xs.drop (p + ys.length)
theorem over_len {xs ys : List AV} {p : Nat} (h : p + ys.length ≤ xs.length) : (over xs p ys).length = xs.length := by simp [over]; omega
theorem over_get {xs ys : List AV} {p : Nat} (h : p + ys.length ≤ xs.length) (i : Nat) : (over xs p ys)[i]? = if i < p then xs[i]? else if i < p + ys.length then ys[i - p]? else xs[i]? := by
  have ht : (xs.take p).length = p := by rw [List.length_take]; omega
  unfold over
  by_cases h1 : i < p
  · rw [if_pos h1, List.append_assoc, List.getElem?_append_left (by omega), List.getElem?_take, if_pos h1]
  · rw [if_neg h1]
    by_cases h2 : i < p + ys.length
    · rw [if_pos h2, List.getElem?_append_left (by rw [List.length_append]; omega), List.getElem?_append_right (by omega), ht]
    · rw [if_neg h2, List.getElem?_append_right (by rw [List.length_append]; omega), List.length_append, ht, List.getElem?_drop]
      congr 1; omega
theorem RowOk.over {st : Site} {e b size p : Nat} {xs ys : List AV} {news : List Value} (h : RowOk Φ m w st e xs true b size) (hys : ∀ v ∈ ys, v.cells.length = e ∧ allOneCell v.cells = true) (hnews : Rs Φ m0 (ys.flatMap AV.cells) news) (hp : p + ys.length ≤ xs.length) :
    RowOk Φ m (w.setCells b (p * e) news) st e (over xs p ys) true b size := by
  have hye : ∀ v ∈ ys, v.cells.length = e := fun v hv => (hys v hv).1
  have hnl : news.length = ys.length * e := by rw [← hnews.1, flat_len hye]
  have hin : ∀ {i : Nat} {v : AV}, (Go.Ab.over xs p ys)[i]? = some v → (v ∈ ys ∨ xs[i]? = some v) := fun {i v} hv => by
    rw [over_get hp] at hv
    split at hv
    · exact .inr hv
    · split at hv
      · exact .inl (List.mem_of_getElem? hv)
      · exact .inr hv
  obtain ⟨tt, hsh⟩ := h.shape
  refine ⟨by rw [over_len hp]; exact h.loc, h.pos, by rw [over_len hp]; exact h.len, ⟨tt, by rw [setCells_shape]; exact hsh⟩, fun i v hv => ?_, fun i v j c hv hc => ?_, fun o ho => by rw [World.frozen?_setCells]; exact h.nf o ho, h.phi, fun o ho => absurd (h.phi rfl o) ho, fun i v hv => ?_⟩
  · rcases hin hv with hv | hv
    · exact hye v hv
    · exact h.each i v hv
  · have hlen := h.len
    rw [over_get hp] at hv
    have out : (i < p ∨ p + ys.length ≤ i) → xs[i]? = some v → ∃ x, (w.setCells b (p * e) news).cell? ⟨b, i * e + j, none⟩ = some x ∧ R Φ m0 c x := fun ho hv => by
      obtain ⟨x, hx, hr⟩ := h.cell i v j c hv hc
      refine ⟨x, ?_, hr⟩
      have hj : j < e := by rw [← h.each i v hv]; exact (List.getElem?_eq_some_iff.1 hc).1
      rw [World.cell?_setCells_out b news (p * e) w _ fun _ _ => ?_]
      · exact hx
      · rcases ho with ho | ho
        · left
          have : (i + 1) * e ≤ p * e := Nat.mul_le_mul_right _ ho
          rw [Nat.add_mul, Nat.one_mul] at this
          show i * e + j < p * e
          omega
        · right
          have : (p + ys.length) * e ≤ i * e := Nat.mul_le_mul_right _ ho
          rw [Nat.add_mul] at this
          show p * e + news.length ≤ i * e + j
          omega
    split at hv
    · rename_i h1; exact out (.inl h1) hv
    · split at hv
      · rename_i h1 h2
        obtain ⟨x, hx, hr⟩ := hnews.2 _ _ (flat_at hye hv hc)
        refine ⟨x, ?_, hr⟩
        have hlt : (i - p) * e + j < news.length := (List.getElem?_eq_some_iff.1 hx).1
        have := World.cell?_setCells_in b news (p * e) w (fun q hq => shape_cell hsh (by
          have : (p + ys.length) * e ≤ xs.length * e := Nat.mul_le_mul_right _ hp
          rw [Nat.add_mul] at this
          omega)) _ hlt
        have hix : i * e + j = p * e + ((i - p) * e + j) := by
          have : i * e = p * e + (i - p) * e := by rw [← Nat.add_mul]; congr 1; omega
          omega
        rw [hix, this]
        exact congrArg some (List.getElem?_eq_some_iff.1 hx).2
      · rename_i h1 h2; exact out (.inr (by omega)) hv
  · rcases hin hv with hv | hv
    · exact (hys v hv).2
    · exact h.one i v hv
theorem zeros_rs {z : AV} {zc : Array Value} {e k : Nat} (hzc : Rs Φ m0 z.cells zc.toList) (he : z.cells.length = e) : Rs Φ m0 ((List.replicate k z).flatMap AV.cells) (Builtin.zeroCells zc k).toList := by
  have hall : ∀ u ∈ List.replicate k z, u.cells.length = e := fun u hu => by rw [List.eq_of_mem_replicate hu]; exact he
  have hsz : zc.size = e := by rw [← he, hzc.1, Array.length_toList]
  refine Rs.mk' (by rw [flat_len hall]; simp [Builtin.zeroCells, hsz]) fun p c x hc hx => ?_
  obtain ⟨i, v, j, h1, h2, rfl⟩ := flat_inv hall hc
  rw [List.getElem?_replicate] at h1
  split at h1
  · rename_i hik
    cases h1
    obtain ⟨y, hy, hr⟩ := hzc.2 j c h2
    have hj : j < e := by rw [← he]; exact (List.getElem?_eq_some_iff.1 h2).1
    have : x = y := by
      have hlt : i * e + j < k * zc.size := by
        rw [hsz]
        have : (i + 1) * e ≤ k * e := Nat.mul_le_mul_right _ hik
        rw [Nat.add_mul] at this; omega
      rw [Array.getElem?_toList] at hx
      simp only [Builtin.zeroCells, Array.getElem?_map] at hx
      rw [Array.getElem?_range, if_pos hlt] at hx
      simp only [Option.map_some, Option.some.injEq] at hx
      rw [hsz, Nat.mul_comm i, Nat.mul_add_mod, Nat.mod_eq_of_lt hj] at hx
      rw [Array.getElem?_toList] at hy
      rw [← hx, getElem!_def, hy]
    rw [this]; exact hr
  · cases h1

/-- What the walk of slices.Delete gives, of elements of e cells. -/
def DelCalls (P : Program) (f : FuncId) (e : Nat) (zc : Array Value) : Prop :=
  ∀ (b n c i j : Nat) (news zs : List Value) (w : World) (tt : TypeId) (size : Nat), i < j → j ≤ n → n ≤ c → n * e ≤ size →
    news.length = (n - j) * e → (∀ t u, news[t]? = some u → w.cell? ⟨b, j * e + t, none⟩ = some u) → (∀ u ∈ news, u.oneCell' = true) →
    (∀ q, q < n * e → w.frozen? ⟨b, q, none⟩ = false) → w.shape? b = some (tt, size) → (Builtin.zeroCells zc (j - i)).toList = zs → (∀ u ∈ zs, u.oneCell' = true) → zs.length = (j - i) * e →
    Calls P f #[.slice (some ⟨b, 0, none⟩) n c, .int .i64 i, .int .i64 j] w fun x w' => x = .returned (.slice (some ⟨b, 0, none⟩) (n - (j - i)) c) ∧ w' = (w.drew.setCells b (i * e) news).setCells b ((i + (n - j)) * e) zs

def rowDel (z : AV) (xs : List AV) (i j : Nat) : List AV := over (over xs i (xs.drop j)) (i + (xs.length - j)) (List.replicate (j - i) z)
/-- **slices.Delete, of a row.** -/
theorem delete_sound {f : FuncId} {fn : Func} {e : Nat} {zc : Array Value} {z : AV} (hd : DelCalls P f e zc) (hf : P.funcs[f]? = some fn) (hb : fn.body.isSome = true) (hne : (fn.name == "runtime.NumGoroutine") = false)
    (hzc : Rs (fun _ _ => none) m0 z.cells zc.toList) (hze : z.cells.length = e) (hz1 : allOneCell z.cells = true) {xs : List AV} {i j : Nat} (hij : i < j) (hj : j ≤ xs.length) :
    SoundCall P f [.sref (.inc 0) 0 xs.length, .int .i64 i, .int .i64 j] [.row e xs true true] ⟨.sref (.inc 0) 0 (xs.length - (j - i)), [.row e (rowDel z xs i j) true true], []⟩ := by
  intro Φ m w args hxs hI
  obtain ⟨v0, r0, ha0, hr0, hxs⟩ := hxs.inv_cons
  obtain ⟨v1, r1, rfl, hr1, hxs⟩ := hxs.inv_cons
  obtain ⟨v2, r2, rfl, hr2, hxs⟩ := hxs.inv_cons
  have hnil := hxs.inv_nil
  subst hnil
  cases hr1; cases hr2
  have hargs : args = #[v0, .int .i64 i, .int .i64 j] := by apply Array.ext'; simpa using ha0
  subst hargs
  rcases hr0.sref_inv with ⟨a, h0, rfl⟩ | ⟨cap, b, esz, z1, z2, hm, g1, g2, g3, rfl⟩
  · omega
  have hg : hget (incH 0 [.row e xs true true]) (.inc 0) = some (.row e xs true true) := by simp [incH, hget, Site.eq_refl]
  rcases hI.blk _ _ hg with ⟨hn, _⟩ | ⟨b', size, hrow⟩
  · rw [hm] at hn; cases hn
  have hl := hrow.loc
  rw [hm] at hl
  cases hl
  have he : ∀ v ∈ xs, v.cells.length = e := fun v hv => by obtain ⟨q, hq⟩ := List.getElem?_of_mem hv; exact hrow.each _ _ hq
  have h1 : ∀ v ∈ xs, allOneCell v.cells = true := fun v hv => by obtain ⟨q, hq⟩ := List.getElem?_of_mem hv; exact hrow.one _ _ hq
  have hlies : Lies Φ m0 (cellsOf w) b (j * e) ((xs.drop j).flatMap AV.cells) := fun p c hp => by
    obtain ⟨q, v, t, k1, k2, rfl⟩ := flat_inv (fun v hv => he v (List.mem_of_mem_drop hv)) hp
    rw [List.getElem?_drop] at k1
    obtain ⟨y, hy, hyr⟩ := hrow.cell _ v t c k1 k2
    refine ⟨y, ?_, hyr⟩
    show w.cell? ⟨b, j * e + (q * e + t), none⟩ = some y
    rw [← hy, Nat.add_mul, Nat.add_assoc]
  obtain ⟨news, hn1, hn2⟩ := hlies.list
  have hnl : news.length = (xs.length - j) * e := by rw [← hn1.1, flat_len fun v hv => he v (List.mem_of_mem_drop hv), List.length_drop]
  have hzr : Rs Φ m0 ((List.replicate (j - i) z).flatMap AV.cells) (Builtin.zeroCells zc (j - i)).toList := zeros_rs (hzc.mono ⟨fun _ _ _ h => (by cases h), fun _ _ _ _ h => (by cases h)⟩) hze
  have hr1 : ∀ u ∈ List.replicate (j - i) z, u.cells.length = e ∧ allOneCell u.cells = true := fun u hu => by rw [List.eq_of_mem_replicate hu]; exact ⟨hze, hz1⟩
  have all1 : ∀ {l : List AV}, (∀ u ∈ l, allOneCell u.cells = true) → allOneCell (l.flatMap AV.cells) = true := fun {l} hl => allOne_iff.2 fun v hv => by
    obtain ⟨u, hu1, hu2⟩ := List.mem_flatMap.1 hv
    exact allOne_iff.1 (hl u hu1) v hu2
  obtain ⟨tt, hsh⟩ := hrow.shape
  have hc := hd b xs.length cap i j news _ w tt z1 hij hj g1 hrow.len hnl (fun t u hu => hn2 t u hu) (one_cells hn1 (all1 fun u hu => h1 u (List.mem_of_mem_drop hu))) (fun q hq => hrow.nf q (by have := hrow.len; omega)) hsh rfl
    (one_cells hzr (all1 fun u hu => (hr1 u hu).2)) (by rw [← hzr.1, flat_len fun u hu => (hr1 u hu).1, List.length_replicate])
  unfold CallsV
  have hcall : (callFunc f #[.slice (some ⟨b, 0 * e, none⟩) xs.length cap, .int .i64 i, .int .i64 j]).run P w = .ok (.enter f #[.slice (some ⟨b, 0 * e, none⟩) xs.length cap, .int .i64 i, .int .i64 j]) w := by
    obtain ⟨c, hc⟩ := Option.isSome_iff_exists.1 hb
    simp only [callFunc, Sem.run_bind, run_program, Result.andThen_ok, hf, hne, hc, Option.isNone_some, Bool.false_eq_true, if_false, Sem.run_pure]
  rw [hcall]
  dsimp only
  rw [Nat.zero_mul] 
  refine Calls.mono hc fun x w' ⟨hx, hw⟩ => ?_
  subst hx; subst hw
  dsimp only
  have hI1 := hI.drawn (w.drawn + 1)
  have hG1 : Glob Φ m w Φ m { w with drawn := w.drawn + 1 } := (Glob.start hI).drawn _
  have hrow1 : RowOk Φ m { w with drawn := w.drawn + 1 } (.inc 0) e xs true b z1 := ⟨hrow.loc, hrow.pos, hrow.len, hrow.shape, hrow.each, hrow.cell, hrow.nf, hrow.phi, hrow.room, hrow.one⟩
  have hp1 : i + (xs.drop j).length ≤ xs.length := by rw [List.length_drop]; omega
  have hrow2 := hrow1.over (p := i) (ys := xs.drop j) (fun v hv => ⟨he v (List.mem_of_mem_drop hv), h1 v (List.mem_of_mem_drop hv)⟩) hn1 hp1
  have hp2 : i + (xs.length - j) + (List.replicate (j - i) z).length ≤ (Go.Ab.over xs i (xs.drop j)).length := by rw [over_len hp1, List.length_replicate]; omega
  have hrow3 := hrow2.over (p := i + (xs.length - j)) (ys := List.replicate (j - i) z) hr1 hzr hp2
  have hI2 := hI1.write (z := (z1, xs.length)) (off := i * e) (xs := news) (B' := .row e (Go.Ab.over xs i (xs.drop j)) true true) hg trivial hm (hrow.phi rfl) (.inr ⟨b, z1, hrow2⟩)
  have hg2 : hget (hset (incH 0 [.row e xs true true]) (.inc 0) (.row e (Go.Ab.over xs i (xs.drop j)) true true)) (.inc 0) = some (.row e (Go.Ab.over xs i (xs.drop j)) true true) := hget_hset_same hg
  have hI3 := hI2.write (z := (z1, xs.length)) (off := (i + (xs.length - j)) * e) (xs := (Builtin.zeroCells zc (j - i)).toList) (B' := .row e (rowDel z xs i j) true true) hg2 trivial hm (hrow.phi rfl) (.inr ⟨b, z1, hrow3⟩)
  refine ⟨Φ, m, ?_, ?_, (hG1.write hm).write hm⟩
  · have := R.sref (Φ := Φ) (m := m) (s := .inc 0) (lo := 0) (len := xs.length - (j - i)) (cap := cap) hm (by omega) g2 (by dsimp only; omega)
    simpa using this
  · refine hI3.congr fun s' => ?_
    simp only [incH, outH, List.append_nil, hset, Site.eq_refl, cond_true]
/-- What is known of slices.Delete, for the evaluation of closed calls. -/
def kDel (f e : Nat) (z : AV) (g : FuncId) (args : List AV) (inc : List Blk) : Option Res :=
  bif Nat.beq g f then (match args, inc with
    | [.sref (.inc 0) 0 n, .int .i64 (.ofNat i), .int .i64 (.ofNat j)], [.row e' xs true true] =>
      bif Nat.beq e' e && Nat.beq n xs.length && Nat.blt i j && Nat.ble j n then some ⟨.sref (.inc 0) 0 (n - (j - i)), [.row e (rowDel z xs i j) true true], []⟩ else none
    | _, _ => none) else none
theorem kDel_ok {f : FuncId} {e : Nat} {z : AV} (hd : ∀ (xs : List AV) (i j : Nat), i < j → j ≤ xs.length →
      SoundCall P f [.sref (.inc 0) 0 xs.length, .int .i64 i, .int .i64 j] [.row e xs true true] ⟨.sref (.inc 0) 0 (xs.length - (j - i)), [.row e (rowDel z xs i j) true true], []⟩)
    {g : FuncId} {args : List AV} {inc : List Blk} {r : Res} (h : kDel f e z g args inc = some r) : SoundCall P g args inc r := by
  unfold kDel at h
  cases hb : Nat.beq g f with
  | false => rw [hb] at h; cases h
  | true =>
    rw [hb] at h
    rw [Nat.beq_eq] at hb
    subst hb
    simp only [cond_true] at h
    split at h
    · rename_i n i j e' xs
      cases hc : (Nat.beq e' e && Nat.beq n xs.length && Nat.blt i j && Nat.ble j n) with
      | false => rw [hc] at h; cases h
      | true =>
        rw [hc] at h
        simp only [Bool.and_eq_true, Nat.beq_eq] at hc
        obtain ⟨⟨⟨rfl, rfl⟩, h1⟩, h2⟩ := hc
        cases h
        exact hd xs i j (by simpa using h1) (Nat.le_of_ble_eq_true h2)
    · cases h
/-- One after the other. -/
def orK (k l : FuncId → List AV → List Blk → Option Res) (f : FuncId) (args : List AV) (inc : List Blk) : Option Res :=
  match k f args inc with
  | some r => some r
  | none => l f args inc
theorem orK_ok {k l : FuncId → List AV → List Blk → Option Res} (hk : ∀ f args inc r, k f args inc = some r → SoundCall P f args inc r) (hl : ∀ f args inc r, l f args inc = some r → SoundCall P f args inc r)
    (f : FuncId) (args : List AV) (inc : List Blk) (r : Res) (h : orK k l f args inc = some r) : SoundCall P f args inc r := by
  unfold orK at h
  split at h
  · rename_i hx; cases h; exact hk _ _ _ _ hx
  · exact hl _ _ _ _ h
end
end Go.Ab
