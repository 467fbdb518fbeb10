/- What slices.Delete and slices.Insert leave: cells written over, as rows. -/
import Derived.Test.YtmppanboolejjaaGreatG2
import Derived.WalkKit
import Derived.ProofKit
import Derived.Lib.SliceRun
import Derived.Shelf.RegionOpenPlain
import Derived.Lib.Walk
import Derived.Deep.RegionLaw
namespace Go.Ab
open Go Go.Proofs
section
variable {P : Program} {w : World} {Φg Φ Φ₀ : Phi} {m i₀ : LMap} {w₀ : World}
theorem run_copy_many {t t' e ty : TypeId} {i : TypeInfo} {b off dl dc sl sc : Nat} {sa : Addr} {vs : List Value} {n : Nat} (ht : P.underlying t = some (.slice e)) (hi : P.info? e = some i) (hn : Nat.min sl dl = n) (hvl : vs.length = n * i.size)
    (hs : ∀ j v,vs[j]? = some v → w.cell? (sa.add j) = some v)
    (hc : ∀ j,j < vs.length → (w.cell? ⟨b,off + j,none⟩).isSome = true) (hf : ∀ j,j < vs.length → w.frozen? ⟨b,off + j,none⟩ = false) (h1 : ∀ u ∈ vs,u.oneCell' = true) :
    (Builtin.copy_ #[t,t'] ty #[.slice (some ⟨b,off,none⟩) dl dc,.slice (some sa) sl sc]).run P w = .ok (goInt n) (w.setCells b off vs) := by
  have hst := run_storeCells_cells (P := P) b off vs 0 w (by simpa using hc) (by simpa using hf) h1
  simp only [Nat.add_zero] at hst
  have hfc := run_firstCells_some (P := P) w i.size n sa sl sc vs hvl hs
  simp [Builtin.copy_,run_underlying ht,Builtin.lenOf,hn,sizeOf,typeInfo,hi,hfc,hst]
def over (xs : List AV) (p : Nat) (ys : List AV) : List AV := xs.take p ++ ys ++ xs.drop (p + ys.length)
theorem over_len {xs ys : List AV} {p : Nat} (h : p + ys.length ≤ xs.length) : (over xs p ys).length = xs.length := by simp [over]; omega
theorem over_get {xs ys : List AV} {p : Nat} (h : p + ys.length ≤ xs.length) (i : Nat) : (over xs p ys)[i]? = if i < p then xs[i]? else if i < p + ys.length then ys[i - p]? else xs[i]? := by
  have ht : (xs.take p).length = p := by rw [List.length_take]; omega
  unfold over
  by_cases h1 : i < p
  · rw [if_pos h1,List.append_assoc,List.getElem?_append_left (by omega),List.getElem?_take,if_pos h1]
  · rw [if_neg h1]
    by_cases h2 : i < p + ys.length
    · rw [if_pos h2,List.getElem?_append_left (by rw [List.length_append]; omega),List.getElem?_append_right (by omega),ht]
    · rw [if_neg h2,List.getElem?_append_right (by rw [List.length_append]; omega),List.length_append,ht,List.getElem?_drop]
      congr 1; omega
theorem RowOk.over {st : Site} {e b size p : Nat} {xs ys : List AV} {news : List Value} (h : RowOk Φ m w st e xs true b size) (hys : ∀ v ∈ ys,v.cells.length = e ∧ allOneCell v.cells = true) (hnews : Rs Φ m0 (ys.flatMap AV.cells) news) (hp : p + ys.length ≤ xs.length) :
    RowOk Φ m (w.setCells b (p * e) news) st e (over xs p ys) true b size := by
  have hye : ∀ v ∈ ys,v.cells.length = e := fun v hv => (hys v hv).1
  have hnl : news.length = ys.length * e := by rw [← hnews.1,flat_len hye]
  have hin : ∀ {i : Nat} {v : AV},(Go.Ab.over xs p ys)[i]? = some v → (v ∈ ys ∨ xs[i]? = some v) := fun {i v} hv => by
    rw [over_get hp] at hv
    split at hv
    · exact .inr hv
    · split at hv
      · exact .inl (List.mem_of_getElem? hv)
      · exact .inr hv
  obtain ⟨tt,hsh⟩ := h.shape
  refine ⟨by rw [over_len hp]; exact h.loc,h.pos,by rw [over_len hp]; exact h.len,⟨tt,by rw [setCells_shape]; exact hsh⟩,fun i v hv => ?_,fun i v j c hv hc => ?_,fun o ho => by rw [World.frozen?_setCells]; exact h.nf o ho,h.phi,fun o ho => absurd (h.phi rfl o) ho,fun i v hv => ?_⟩
  · rcases hin hv with hv | hv
    · exact hye v hv
    · exact h.each i v hv
  · have hlen := h.len
    rw [over_get hp] at hv
    have out : (i < p ∨ p + ys.length ≤ i) → xs[i]? = some v → ∃ x,(w.setCells b (p * e) news).cell? ⟨b,i * e + j,none⟩ = some x ∧ R Φ m0 c x := fun ho hv => by
      obtain ⟨x,hx,hr⟩ := h.cell i v j c hv hc
      refine ⟨x, ?_,hr⟩
      have hj : j < e := by rw [← h.each i v hv]; exact (List.getElem?_eq_some_iff.1 hc).1
      rw [World.cell?_setCells_out b news (p * e) w _ fun _ _ => ?_]
      · exact hx
      · rcases ho with ho | ho
        · left
          have : (i + 1) * e ≤ p * e := Nat.mul_le_mul_right _ ho
          rw [Nat.add_mul,Nat.one_mul] at this
          show i * e + j < p * e
          omega
        · right
          have : (p + ys.length) * e ≤ i * e := Nat.mul_le_mul_right _ ho
          rw [Nat.add_mul] at this
          show p * e + news.length ≤ i * e + j
          omega
    split at hv
    · rename_i h1; exact out (.inl h1) hv
    · split at hv
      · rename_i h1 h2
        obtain ⟨x,hx,hr⟩ := hnews.2 _ _ (flat_at hye hv hc)
        refine ⟨x, ?_,hr⟩
        have hlt : (i - p) * e + j < news.length := (List.getElem?_eq_some_iff.1 hx).1
        have := World.cell?_setCells_in b news (p * e) w (fun q hq => shape_cell hsh (by
          have : (p + ys.length) * e ≤ xs.length * e := Nat.mul_le_mul_right _ hp
          rw [Nat.add_mul] at this
          omega)) _ hlt
        have hix : i * e + j = p * e + ((i - p) * e + j) := by
          have : i * e = p * e + (i - p) * e := by rw [← Nat.add_mul]; congr 1; omega
          omega
        rw [hix,this]
        exact congrArg some (List.getElem?_eq_some_iff.1 hx).2
      · rename_i h1 h2; exact out (.inr (by omega)) hv
  · rcases hin hv with hv | hv
    · exact (hys v hv).2
    · exact h.one i v hv
def orK (k l : FuncId → List AV → List Blk → Option Res) (f : FuncId) (args : List AV) (inc : List Blk) : Option Res :=
  match k f args inc with
  | some r => some r
  | none => l f args inc
theorem orK_ok {k l : FuncId → List AV → List Blk → Option Res} (hk : ∀ f args inc r,k f args inc = some r → SoundCall P Φg f args inc r) (hl : ∀ f args inc r,l f args inc = some r → SoundCall P Φg f args inc r)
    (f : FuncId) (args : List AV) (inc : List Blk) (r : Res) (h : orK k l f args inc = some r) : SoundCall P Φg f args inc r := by
  unfold orK at h
  split at h
  · rename_i hx; cases h; exact hk _ _ _ _ hx
  · exact hl _ _ _ _ h
theorem out_ok (hbase : ∀ b o x,Φg b o = some x → Φ b o = some x) {w w' : World} {B0 B1 : Blk} {blk e size cap : Nat} {z : Nat × Nat} {tt : TypeId} {xs : List AV} {cs : List Value} (hI : Inv Φ m w (incH 0 [B0,B1])) (hphi : ∀ o,Φ blk o = none)
    (hsame : ∀ c,c ≠ blk → c < w.heap.size → w'.heap[c]? = w.heap[c]?) (hsize : w.heap.size ≤ w'.heap.size) (hos : w'.os = w.os) (hout : w'.output = w.output) (htape : w'.tape = w.tape)
    (hblk : m (.inc 0) = .at blk e z ∨ w.heap.size ≤ blk) (hlt : blk < w'.heap.size) (hpos : 0 < e) (hsz : cap * e ≤ size) (hcap : xs.length ≤ cap) (hsh : w'.shape? blk = some (tt,size)) (hf : ∀ q,w'.frozen? ⟨blk,q,none⟩ = false)
    (hcs : Rs Φ m0 (xs.flatMap AV.cells) cs) (hcell : ∀ p x,cs[p]? = some x → w'.cell? ⟨blk,p,none⟩ = some x) (hxe : ∀ v ∈ xs,v.cells.length = e ∧ allOneCell v.cells = true) :
    ∃ Φ' m',R Φ' m' (.sref (.out 0) 0 xs.length) (.slice (some ⟨blk,0,none⟩) xs.length cap) ∧ Inv Φ' m' w' (incH 0 [.gone,.gone] ++ outH 0 [.row e xs true true]) ∧ Glob Φg Φ m w Φ' m' w' := by
  have hm0 : m (.out 0) = .none := hI.map _ (by simp [incH,hget,Site.eq])
  have hget' : ∀ s,hget (incH 0 [.gone,.gone] ++ outH 0 [.row e xs true true]) s = if s = .inc 0 then some .gone else if s = .inc 1 then some .gone else if s = .out 0 then some (.row e xs true true) else none := fun s => by
    simp only [incH,outH,List.cons_append,List.nil_append,hget]
    cases s with
    | inc i =>
      by_cases h0 : i = 0
      · subst h0; simp [Site.eq]
      · by_cases h1 : i = 1
        · subst h1; simp [Site.eq]
        · have e0 : Nat.beq 0 i = false := by cases h : Nat.beq 0 i with | false => rfl | true => rw [Nat.beq_eq] at h; omega
          have e1 : Nat.beq (0 + 1) i = false := by cases h : Nat.beq (0 + 1) i with | false => rfl | true => rw [Nat.beq_eq] at h; omega
          simp only [Site.eq,e0,e1,cond_false]
          rw [if_neg (by simp [h0]),if_neg (by simp [h1]),if_neg (by simp)]
    | out i =>
      by_cases h0 : i = 0
      · subst h0; simp [Site.eq]
      · have e0 : Nat.beq 0 i = false := by cases h : Nat.beq 0 i with | false => rfl | true => rw [Nat.beq_eq] at h; omega
        simp only [Site.eq,e0,cond_false]
        rw [if_neg (by simp),if_neg (by simp),if_neg (by simp [h0])]
    | _ => simp [Site.eq]
  have hmlt : ∀ s b' e' z',m s = .at b' e' z' → b' < w.heap.size := hI.lt
  refine ⟨Φ,upd m (.out 0) (.at blk e (size,xs.length)), ?_,⟨fun b o x hx => ?_,fun s B hB => ?_,fun s hs => ?_,fun s1 s2 B1' B2' b' e' z' e'' z'' h1 h2 l1 l2 _ _ => ?_,fun s b' e' z' h => ?_⟩,
    ⟨fun _ _ _ h => h,fun b o h h' => absurd h' h,fun i b' e' z' h => ?_,fun s b' e' z' h => ?_,fun c hc hi => ?_,hsize,hos,hout,htape,hbase⟩⟩
  · have := R.sref (Φ := Φ) (m := upd m (.out 0) (.at blk e (size,xs.length))) (s := .out 0) (lo := 0) (len := xs.length) (cap := cap) (upd_same _ _ _) hcap (by simpa using hsz) (by simp)
    simpa using this
  · have hne : b ≠ blk := by rintro rfl; rw [hphi] at hx; cases hx
    have hc := hI.phi b o x hx
    have hlt' : b < w.heap.size := by
      unfold World.cell? at hc
      split at hc
      · rename_i hb; exact (Array.getElem?_eq_some_iff.1 hb).1
      · cases hc
    unfold World.cell? at hc ⊢
    rw [hsame b hne hlt']
    exact hc
  · rw [hget'] at hB
    split at hB
    · cases hB; trivial
    · split at hB
      · cases hB; trivial
      · split at hB
        · rename_i hs
          cases hB
          subst hs
          have hee : ∀ v ∈ xs,v.cells.length = e := fun v hv => (hxe v hv).1
          refine .inr ⟨blk,size,⟨upd_same _ _ _,hpos, ?_,⟨tt,hsh⟩,fun i v hv => hee v (List.mem_of_getElem? hv),fun i v j c hv hc => ?_,fun o _ => hf o,fun _ => hphi,fun o ho => absurd (hphi o) ho,fun i v hv => (hxe v (List.mem_of_getElem? hv)).2⟩⟩
          · have : xs.length * e ≤ cap * e := Nat.mul_le_mul_right _ hcap
            omega
          · obtain ⟨x,hx,hr⟩ := hcs.2 _ _ (flat_at hee hv hc)
            exact ⟨x,hcell _ _ hx,hr⟩
        · cases hB
  · rw [hget'] at hs
    have h3 : s ≠ .out 0 := by rintro rfl; simp at hs
    rw [upd_ne _ _ h3]
    refine hI.map s ?_
    have h1 : s ≠ .inc 0 := by rintro rfl; simp at hs
    have h2 : s ≠ .inc 1 := by rintro rfl; simp at hs
    simp only [incH]
    rw [hget_cons_ne _ _ (Ne.symm h1),hget_cons_ne _ _ (Ne.symm h2)]
    rfl
  · rw [hget'] at h1 h2
    have key : ∀ {s : Site} {B : Blk},(if s = .inc 0 then some Blk.gone else if s = .inc 1 then some .gone else if s = .out 0 then some (.row e xs true true) else none) = some B → B.live → s = .out 0 := fun {s B} h l => by
      split at h
      · cases h; exact l.elim
      · split at h
        · cases h; exact l.elim
        · split at h
          · assumption
          · cases h
    rw [key h1 l1,key h2 l2]
  · by_cases hs : s = .out 0
    · subst hs; rw [upd_same] at h; cases h; exact hlt
    · rw [upd_ne _ _ hs] at h; exact Nat.lt_of_lt_of_le (hmlt _ _ _ _ h) hsize
  · rw [upd_ne _ _ (by simp)]; exact h
  · by_cases hs : s = .out 0
    · subst hs; rw [upd_same] at h; cases h
      rcases hblk with hb | hb
      · exact .inl ⟨0,_,_,hb⟩
      · exact .inr hb
    · rw [upd_ne _ _ hs] at h
      exact (Glob.start hI hbase).own _ _ _ _ h
  · have hne : c ≠ blk := by
      rintro rfl
      rcases hblk with hb | hb
      · exact hi _ _ _ hb
      · omega
    exact hsame c hne hc
structure InsCalls (P : Program) (f : FuncId) (e : Nat) (te : TypeId) (bytes : Nat) : Prop where
  a : ∀ (b n c vb vc size : Nat) (tt : TypeId) (ys : List Value) (w : World),n + 1 ≤ c → w.shape? b = some (tt,size) → (n + 1) * e ≤ size → (∀ q,w.frozen? ⟨b,q,none⟩ = false) →
    ys.length = e → (∀ j v,ys[j]? = some v → w.cell? ⟨vb,j,none⟩ = some v) → (∀ u ∈ ys,u.oneCell' = true) →
    Calls P f #[.slice (some ⟨b,0,none⟩) n c,.int .i64 n,.slice (some ⟨vb,0,none⟩) 1 vc] w fun x w' => x = .returned (.slice (some ⟨b,0,none⟩) (n + 1) c) ∧ w' = w.setCells b (n * e) ys
  b : ∀ (ba : Option Addr) (n c vb vc : Nat) (ys olds : List Value) (w : World),n ≤ c → c < n + 1 → (n + 1) * bytes ≤ 140737488355328 → (Builtin.firstCells e n (.slice ba n c)).run P w.drew = .ok olds.toArray w.drew → olds.length = n * e →
    ys.length = e → (∀ j v,ys[j]? = some v → w.cell? ⟨vb,j,none⟩ = some v) →
    Calls P f #[.slice ba n c,.int .i64 n,.slice (some ⟨vb,0,none⟩) 1 vc] w fun x w' => ∃ (ROW : Array Value) (G : Nat),n + 1 ≤ G ∧ ROW.size = G * e ∧ ROW.toList.take ((n + 1) * e) = olds ++ ys ∧
      x = .returned (.slice (some ⟨w.heap.size,0,none⟩) (n + 1) G) ∧ w' = w.drew.alloc (.cells ROW te)
  c : ∀ (b n c i vb vc size vsz : Nat) (tt vt : TypeId) (ys olds : List Value) (w : World),i < n → n + 1 ≤ 140737488355328 → n + 1 ≤ c → w.shape? b = some (tt,size) → (n + 1) * e ≤ size → (∀ q,w.frozen? ⟨b,q,none⟩ = false) →
    w.shape? vb = some (vt,vsz) → (∀ q,w.frozen? ⟨vb,q,none⟩ = false) → vb ≠ b → ys.length = e → (∀ j v,ys[j]? = some v → w.cell? ⟨vb,j,none⟩ = some v) → (∀ u ∈ ys,u.oneCell' = true) →
    olds.length = (n - i) * e → (∀ j v,olds[j]? = some v → w.cell? ⟨b,i * e + j,none⟩ = some v) → (∀ u ∈ olds,u.oneCell' = true) →
    Calls P f #[.slice (some ⟨b,0,none⟩) n c,.int .i64 i,.slice (some ⟨vb,0,none⟩) 1 vc] w fun x w' => x = .returned (.slice (some ⟨b,0,none⟩) (n + 1) c) ∧ w' = (w.drew.setCells b ((i + 1) * e) olds).setCells b (i * e) ys
  d : ∀ (b n c i vb vc : Nat) (ys olds front : List Value) (w : World),i < n → n ≤ c → c < n + 1 → (n + 1) * bytes ≤ 140737488355328 → b < w.heap.size → vb < w.heap.size →
    front.length = i * e → (∀ j v,front[j]? = some v → w.cell? ⟨b,j,none⟩ = some v) → ys.length = e → (∀ j v,ys[j]? = some v → w.cell? ⟨vb,j,none⟩ = some v) → (∀ u ∈ ys,u.oneCell' = true) →
    olds.length = (n - i) * e → (∀ j v,olds[j]? = some v → w.cell? ⟨b,i * e + j,none⟩ = some v) → (∀ u ∈ olds,u.oneCell' = true) →
    Calls P f #[.slice (some ⟨b,0,none⟩) n c,.int .i64 i,.slice (some ⟨vb,0,none⟩) 1 vc] w fun x w' => ∃ (ROW : Array Value) (G : Nat),n + 1 ≤ G ∧ ROW.size = G * e ∧ ROW.toList.take (i * e) = front ∧
      x = .returned (.slice (some ⟨w.heap.size,0,none⟩) (n + 1) G) ∧ w' = (((w.drew.alloc (.cells ROW te)).setCells w.heap.size (i * e) ys).drew).setCells w.heap.size ((i + 1) * e) olds
theorem insert_sound {f : FuncId} {fn : Func} {e bytes : Nat} {te : TypeId} (hd : InsCalls P f e te bytes) (hf : P.funcs[f]? = some fn) (hb : fn.body.isSome = true) (hne : (fn.name == "runtime.NumGoroutine") = false) (he1 : 1 < e) (hb0 : 0 < bytes)
    {xs : List AV} {y : AV} {i : Nat} (hi : i ≤ xs.length) (hby : (xs.length + 1) * bytes ≤ 140737488355328) :
    SoundCall P Φg f [.sref (.inc 0) 0 xs.length,.int .i64 i,.sref (.inc 1) 0 1] [.row e xs true true,.row e [y] true true] ⟨.sref (.out 0) 0 (xs.length + 1),[.gone,.gone],[.row e (xs.take i ++ y :: xs.drop i) true true]⟩ := by
  intro Φ m w args hbase hxs hI
  obtain ⟨v0,r0,ha0,hr0,hxs⟩ := hxs.inv_cons
  obtain ⟨v1,r1,rfl,hr1,hxs⟩ := hxs.inv_cons
  obtain ⟨v2,r2,rfl,hr2,hxs⟩ := hxs.inv_cons
  have hnil := hxs.inv_nil
  subst hnil
  cases hr1
  have hargs : args = #[v0,.int .i64 i,v2] := by apply Array.ext'; simpa using ha0
  subst hargs
  have hg0 : hget (incH 0 [.row e xs true true,.row e [y] true true]) (.inc 0) = some (.row e xs true true) := by simp [incH,hget,Site.eq_refl]
  have hg1 : hget (incH 0 [.row e xs true true,.row e [y] true true]) (.inc 1) = some (.row e [y] true true) := rfl
  rcases hr2.sref_inv with ⟨_,h0,_⟩ | ⟨vc,vb,vesz,vz1,vz2,hvm,_,_,_,rfl⟩
  · cases h0
  rcases hI.blk _ _ hg1 with ⟨hn,_⟩ | ⟨vb',vsize,hvrow⟩
  · rw [hvm] at hn; cases hn
  have hvl := hvrow.loc
  rw [hvm] at hvl
  cases hvl
  have hye : y.cells.length = e := hvrow.each 0 y rfl
  have hy1 : allOneCell y.cells = true := hvrow.one 0 y rfl
  have hvlies : Lies Φ m0 (cellsOf w) vb 0 y.cells := fun j c hc => by
    obtain ⟨x,hx,hr⟩ := hvrow.cell 0 y j c rfl hc
    exact ⟨x,by rw [Nat.zero_mul,Nat.zero_add] at hx; rw [Nat.zero_add]; exact hx,hr⟩
  obtain ⟨ys,hy2,hy3⟩ := hvlies.list
  have hyl : ys.length = e := by rw [← hy2.1]; exact hye
  have hys : ∀ j v,ys[j]? = some v → w.cell? ⟨vb,j,none⟩ = some v := fun j v hj => by have := hy3 j v hj; rw [Nat.zero_add] at this; exact this
  have hyo : ∀ u ∈ ys,u.oneCell' = true := one_cells hy2 hy1
  obtain ⟨vt,hvsh⟩ := hvrow.shape
  have hvf : ∀ q,w.frozen? ⟨vb,q,none⟩ = false := fun q => hvrow.nf q (.inr he1)
  have hvw : vb < w.heap.size := hI.lt _ _ _ _ hvm
  have hdrew : ∀ (v : World),v = w.drew → v.heap = w.heap ∧ v.os = w.os ∧ v.output = w.output ∧ v.tape = w.tape := fun v h => by subst h; exact ⟨rfl,rfl,rfl,rfl⟩
  unfold CallsV
  have hcall : ∀ a : Array Value,(callFunc f a).run P w = .ok (.enter f a) w := fun a => by
    obtain ⟨c,hc⟩ := Option.isSome_iff_exists.1 hb
    simp only [callFunc,Sem.run_bind,run_program,Result.andThen_ok,hf,hne,hc,Option.isNone_some,Bool.false_eq_true,if_false,Sem.run_pure]
  rw [hcall]
  dsimp only
  rw [Nat.zero_mul]
  have hlen : (xs.take i ++ y :: xs.drop i).length = xs.length + 1 := by simp; omega
  have grown : ∀ {ba : Option Addr} {cap : Nat} {olds : List Value},i = xs.length → xs.length ≤ cap → cap < xs.length + 1 → (∀ v ∈ xs,v.cells.length = e ∧ allOneCell v.cells = true) → Rs Φ m0 (xs.flatMap AV.cells) olds →
      (Builtin.firstCells e xs.length (.slice ba xs.length cap)).run P w.drew = .ok olds.toArray w.drew →
      Calls P f #[.slice ba xs.length cap,.int .i64 i,.slice (some ⟨vb,0,none⟩) 1 vc] w fun
        | .returned v,w'' => ∃ Φ' m',R Φ' m' (.sref (.out 0) 0 (xs.length + 1)) v ∧ Inv Φ' m' w'' (incH 0 [.gone,.gone] ++ outH 0 [.row e (xs.take i ++ y :: xs.drop i) true true]) ∧ Glob Φg Φ m w Φ' m' w''
        | _,_ => False := by
    intro ba cap olds hin h1 h2 hxe hol hfo
    have hol' : olds.length = xs.length * e := by rw [← hol.1,flat_len fun v hv => (hxe v hv).1]
    rw [hin]
    refine Calls.mono (hd.b ba xs.length cap vb vc ys olds w h1 h2 hby hfo hol' hyl hys) fun x w' hx => ?_
    obtain ⟨ROW,G,hG,hR,hT,rfl,rfl⟩ := hx
    dsimp only
    have hxs' : xs.take xs.length ++ y :: xs.drop xs.length = xs ++ [y] := by simp
    rw [hxs']
    have hl : xs.length + 1 = (xs ++ [y]).length := by simp
    rw [hl]
    have hcs : Rs Φ m0 ((xs ++ [y]).flatMap AV.cells) (olds ++ ys) := by rw [List.flatMap_append]; exact hol.append (by simpa using hy2)
    refine out_ok hbase (z := (0,0)) (tt := te) (size := G * e) (cs := olds ++ ys) hI (fun o => hI.phi_new o) (fun c hc hlt => ?_) ?_ rfl rfl rfl (.inr (Nat.le_refl _)) ?_ (by omega) (Nat.le_refl _) (by rw [← hl]; exact hG) ?_ (fun q => ?_) hcs (fun p x hp => ?_) (fun v hv => ?_)
    · show (w.heap.push _)[c]? = _
      rw [Array.getElem?_push,if_neg hc]
    · show w.heap.size ≤ (w.heap.push _).size
      rw [Array.size_push]; omega
    · show w.heap.size < (w.heap.push _).size
      rw [Array.size_push]; omega
    · have := shape_new (w := w.drew) (c := ROW) (t := te)
      rw [← hR]; exact this
    · exact World.frozen?_alloc_at (w := w.drew) ROW te w.heap.size q rfl
    · rw [World.cell?_alloc_at (w := w.drew) ROW te w.heap.size p rfl]
      have hpl : p < (xs.length + 1) * e := by
        have := (List.getElem?_eq_some_iff.1 hp).1
        rw [List.length_append,hol',hyl] at this
        rw [Nat.add_mul,Nat.one_mul]; exact this
      rw [← hT,List.getElem?_take,if_pos hpl,Array.getElem?_toList] at hp
      exact hp
    · rcases List.mem_append.1 hv with hv | hv
      · exact hxe v hv
      · rw [List.mem_singleton.1 hv]; exact ⟨hye,hy1⟩
  rcases hr0.sref_inv with ⟨a,h0,rfl⟩ | ⟨cap,b,esz,z1,z2,hm,g1,g2,g3,rfl⟩
  · obtain rfl : xs = [] := List.eq_nil_of_length_eq_zero h0
    refine grown (ba := a) (olds := []) (by simp at hi; simp [hi]) (by simp) (by simp) (fun v hv => by cases hv) .nil ?_
    cases a with
    | none => simp [Builtin.firstCells]
    | some ad => exact run_firstCells_some w.drew e 0 ad 0 0 [] (by simp) (fun j v hj => by simp at hj)
  rcases hI.blk _ _ hg0 with ⟨hn,_⟩ | ⟨b',size,hrow⟩
  · rw [hm] at hn; cases hn
  have hl := hrow.loc
  rw [hm] at hl
  cases hl
  rw [Nat.zero_mul]
  have hxe : ∀ v ∈ xs,v.cells.length = e ∧ allOneCell v.cells = true := fun v hv => by obtain ⟨q,hq⟩ := List.getElem?_of_mem hv; exact ⟨hrow.each _ _ hq,hrow.one _ _ hq⟩
  have hee : ∀ v ∈ xs,v.cells.length = e := fun v hv => (hxe v hv).1
  have hlies : Lies Φ m0 (cellsOf w) b 0 (xs.flatMap AV.cells) := fun p c hp => by
    obtain ⟨q,v,t,k1,k2,rfl⟩ := flat_inv hee hp
    obtain ⟨u,hu,hr⟩ := hrow.cell _ v t c k1 k2
    exact ⟨u,by rw [Nat.zero_add]; exact hu,hr⟩
  obtain ⟨os,ho1,ho2⟩ := hlies.list
  have ho2' : ∀ j v,os[j]? = some v → w.cell? ⟨b,j,none⟩ = some v := fun j v hj => by have := ho2 j v hj; rw [Nat.zero_add] at this; exact this
  have hosl : os.length = xs.length * e := by rw [← ho1.1,flat_len hee]
  obtain ⟨tt,hsh⟩ := hrow.shape
  have hbf : ∀ q,w.frozen? ⟨b,q,none⟩ = false := fun q => hrow.nf q (.inr he1)
  have hbw : b < w.heap.size := hI.lt _ _ _ _ hm
  have hbphi := hrow.phi rfl
  have hall1 : allOneCell (xs.flatMap AV.cells) = true := allOne_iff.2 fun v hv => by
    obtain ⟨u,hu1,hu2⟩ := List.mem_flatMap.1 hv
    exact allOne_iff.1 (hxe u hu1).2 v hu2
  have hos1 : ∀ u ∈ os,u.oneCell' = true := one_cells ho1 hall1
  have hn47 : xs.length + 1 ≤ 140737488355328 := by
    have : (xs.length + 1) * 1 ≤ (xs.length + 1) * bytes := Nat.mul_le_mul_left _ hb0
    omega
  have hie : i * e ≤ xs.length * e := Nat.mul_le_mul_right _ hi
  have htk : (xs.take i).flatMap AV.cells = (xs.flatMap AV.cells).take (i * e) := by
    have h1 : xs.flatMap AV.cells = (xs.take i).flatMap AV.cells ++ (xs.drop i).flatMap AV.cells := by rw [← List.flatMap_append,List.take_append_drop]
    rw [h1,List.take_left']
    rw [flat_len fun v hv => hee v (List.mem_of_mem_take hv),List.length_take]; congr 1; omega
  have hdk : (xs.drop i).flatMap AV.cells = (xs.flatMap AV.cells).drop (i * e) := by
    have h1 : xs.flatMap AV.cells = (xs.take i).flatMap AV.cells ++ (xs.drop i).flatMap AV.cells := by rw [← List.flatMap_append,List.take_append_drop]
    rw [h1,List.drop_left']
    rw [flat_len fun v hv => hee v (List.mem_of_mem_take hv),List.length_take]; congr 1; omega
  have hfr : Rs Φ m0 ((xs.take i).flatMap AV.cells) (os.take (i * e)) := by
    rw [htk]
    refine Rs.mk' (by rw [List.length_take,List.length_take,ho1.1]) fun j v x hv hx => ?_
    rw [List.getElem?_take] at hv hx
    split at hv
    · rename_i hj; rw [if_pos hj] at hx; exact ho1.at hv hx
    · cases hv
  have hbk : Rs Φ m0 ((xs.drop i).flatMap AV.cells) (os.drop (i * e)) := by
    rw [hdk]
    refine Rs.mk' (by rw [List.length_drop,List.length_drop,ho1.1]) fun j v x hv hx => ?_
    rw [List.getElem?_drop] at hv hx
    exact ho1.at hv hx
  have hcs : Rs Φ m0 ((xs.take i ++ y :: xs.drop i).flatMap AV.cells) (os.take (i * e) ++ (ys ++ os.drop (i * e))) := by
    rw [List.flatMap_append,List.flatMap_cons]
    exact hfr.append (hy2.append hbk)
  have hxe' : ∀ v ∈ xs.take i ++ y :: xs.drop i,v.cells.length = e ∧ allOneCell v.cells = true := fun v hv => by
    rcases List.mem_append.1 hv with hv | hv
    · exact hxe v (List.mem_of_mem_take hv)
    · rcases List.mem_cons.1 hv with rfl | hv
      · exact ⟨hye,hy1⟩
      · exact hxe v (List.mem_of_mem_drop hv)
  have hdl : (os.drop (i * e)).length = (xs.length - i) * e := by rw [List.length_drop,hosl,← Nat.sub_mul]
  have htl : (os.take (i * e)).length = i * e := by rw [List.length_take,hosl]; omega
  have hdc : ∀ j v,(os.drop (i * e))[j]? = some v → w.cell? ⟨b,i * e + j,none⟩ = some v := fun j v hj => by rw [List.getElem?_drop] at hj; exact ho2' _ v hj
  have hcsz : (xs.length + 1) * e ≤ cap * e → (xs.length + 1) * e ≤ z1 := fun h => by simp only [Nat.zero_add] at g2; omega
  have getc : ∀ {p : Nat} {x : Value},(os.take (i * e) ++ (ys ++ os.drop (i * e)))[p]? = some x → (p < i * e ∧ os[p]? = some x) ∨ (i * e ≤ p ∧ p < (i + 1) * e ∧ ys[p - i * e]? = some x) ∨ ((i + 1) * e ≤ p ∧ (os.drop (i * e))[p - (i + 1) * e]? = some x) := fun {p x} hp => by
    have h2 : (i + 1) * e = i * e + e := by rw [Nat.add_mul,Nat.one_mul]
    by_cases h1 : p < i * e
    · rw [List.getElem?_append_left (by rw [htl]; exact h1),List.getElem?_take,if_pos h1] at hp
      exact .inl ⟨h1,hp⟩
    · rw [List.getElem?_append_right (by rw [htl]; omega),htl] at hp
      by_cases h3 : p < (i + 1) * e
      · rw [List.getElem?_append_left (by rw [hyl]; omega)] at hp
        exact .inr (.inl ⟨by omega,h3,hp⟩)
      · rw [List.getElem?_append_right (by rw [hyl]; omega),hyl] at hp
        exact .inr (.inr ⟨by omega,by rw [h2,show p - (i * e + e) = p - i * e - e by omega]; exact hp⟩)
  by_cases hin : i = xs.length
  · by_cases hroom : xs.length + 1 ≤ cap
    · -- at the end, room
      have hsz : (xs.length + 1) * e ≤ z1 := hcsz (Nat.mul_le_mul_right _ hroom)
      have hh := hd.a b xs.length cap vb vc z1 tt ys w hroom hsh hsz hbf hyl hys hyo
      rw [← hin] at hh ⊢
      rw [hin] at hh ⊢
      refine Calls.mono hh fun x w' hx => ?_
      obtain ⟨rfl,rfl⟩ := hx
      dsimp only
      obtain ⟨s1,s2,s3⟩ := setCells_same (b := b) ys (xs.length * e) w
      rw [← hlen]
      rw [← hin]
      refine out_ok hbase (z := (z1,xs.length)) (tt := tt) (size := z1) hI hbphi (fun c hc _ => setCells_other hc _ _ _) (by rw [setCells_size]; exact Nat.le_refl _) (by rw [hin]; exact s1) (by rw [hin]; exact s2) (by rw [hin]; exact s3) (.inl hm) (by rw [setCells_size]; exact hbw) (by omega)
        (by simpa using g2) (by rw [hlen]; exact hroom) (by rw [setCells_shape]; exact hsh) (fun q => by rw [World.frozen?_setCells]; exact hbf q) hcs (fun p x hp => ?_) hxe'
      have hsp : ∀ q,q < ys.length → (w.cell? ⟨b,i * e + q,none⟩).isSome = true := fun q hq => shape_cell hsh (by rw [hyl] at hq; rw [hin]; rw [Nat.add_mul] at hsz; omega)
      rcases getc hp with ⟨h1,h2⟩ | ⟨h1,h2,h3⟩ | ⟨h1,h2⟩
      · rw [World.cell?_setCells_out b ys (i * e) w _ fun _ _ => .inl h1]
        exact ho2' _ _ h2
      · have h4 : p - i * e < ys.length := (List.getElem?_eq_some_iff.1 h3).1
        have := World.cell?_setCells_in b ys (i * e) w hsp _ h4
        rw [show i * e + (p - i * e) = p by omega] at this
        rw [this]
        exact congrArg some (List.getElem?_eq_some_iff.1 h3).2
      · have := (List.getElem?_eq_some_iff.1 h2).1
        rw [hdl,hin,Nat.sub_self,Nat.zero_mul] at this
        omega
    · -- at the end, no room
      refine grown (olds := os) hin g1 (by omega) hxe ho1 ?_
      exact run_firstCells_some w.drew e xs.length ⟨b,0,none⟩ _ cap os hosl (fun j v hj => by rw [addr_add,Nat.zero_add]; exact ho2' _ _ hj)
  · have hlt : i < xs.length := by omega
    by_cases hroom : xs.length + 1 ≤ cap
    · -- in between, room
      have hsz : (xs.length + 1) * e ≤ z1 := hcsz (Nat.mul_le_mul_right _ hroom)
      have hvb : vb ≠ b := by
        rintro rfl
        have := hI.inj _ _ _ _ _ _ _ _ _ hg0 hg1 trivial trivial hm hvm
        cases this
      refine Calls.mono (hd.c b xs.length cap i vb vc z1 vz1 tt vt ys (os.drop (i * e)) w hlt hn47 hroom hsh hsz hbf hvsh hvf hvb hyl hys hyo hdl hdc (fun u hu => hos1 u (List.mem_of_mem_drop hu))) fun x w' hx => ?_
      obtain ⟨rfl,rfl⟩ := hx
      dsimp only
      obtain ⟨s1,s2,s3⟩ := setCells_same (b := b) (os.drop (i * e)) ((i + 1) * e) w.drew
      obtain ⟨t1,t2,t3⟩ := setCells_same (b := b) ys (i * e) (w.drew.setCells b ((i + 1) * e) (os.drop (i * e)))
      have h2 : (i + 1) * e = i * e + e := by rw [Nat.add_mul,Nat.one_mul]
      have hrest : (i + 1) * e + (xs.length - i) * e = (xs.length + 1) * e := by rw [← Nat.add_mul]; congr 1; omega
      rw [← hlen]
      refine out_ok hbase (z := (z1,xs.length)) (tt := tt) (size := z1) hI hbphi (fun c hc _ => by rw [setCells_other hc,setCells_other hc]; rfl) (by rw [setCells_size,setCells_size]; exact Nat.le_refl _) (t1.trans s1) (t2.trans s2) (t3.trans s3) (.inl hm) (by rw [setCells_size,setCells_size]; exact hbw) (by omega)
        (by simpa using g2) (by rw [hlen]; exact hroom) (by rw [setCells_shape,setCells_shape]; exact hsh) (fun q => by rw [World.frozen?_setCells,World.frozen?_setCells]; exact hbf q) hcs (fun p x hp => ?_) hxe'
      have hsp0 : ∀ q,q < (xs.length + 1) * e → (w.drew.cell? ⟨b,q,none⟩).isSome = true := fun q hq => shape_cell (w := w.drew) hsh (by omega)
      have hsp1 : ∀ q,q < (xs.length + 1) * e → ((w.drew.setCells b ((i + 1) * e) (os.drop (i * e))).cell? ⟨b,q,none⟩).isSome = true := fun q hq => shape_cell (by rw [setCells_shape]; exact hsh) (by omega)
      have hie1 : (i + 1) * e ≤ (xs.length + 1) * e := Nat.mul_le_mul_right _ (by omega)
      rcases getc hp with ⟨h1,h3⟩ | ⟨h1,h4,h3⟩ | ⟨h1,h3⟩
      · rw [World.cell?_setCells_out b ys (i * e) _ _ fun _ _ => .inl h1,World.cell?_setCells_out b _ ((i + 1) * e) _ _ fun _ _ => .inl (by show p < _; omega)]
        exact ho2' _ _ h3
      · have h5 : p - i * e < ys.length := (List.getElem?_eq_some_iff.1 h3).1
        have := World.cell?_setCells_in b ys (i * e) (w.drew.setCells b ((i + 1) * e) (os.drop (i * e))) (fun q hq => hsp1 _ (by rw [hyl] at hq; omega)) _ h5
        rw [show i * e + (p - i * e) = p by omega] at this
        rw [this]
        exact congrArg some (List.getElem?_eq_some_iff.1 h3).2
      · have h5 : p - (i + 1) * e < (os.drop (i * e)).length := (List.getElem?_eq_some_iff.1 h3).1
        rw [World.cell?_setCells_out b ys (i * e) _ _ fun _ _ => .inr (by show i * e + ys.length ≤ p; rw [hyl]; omega)]
        have := World.cell?_setCells_in b (os.drop (i * e)) ((i + 1) * e) w.drew (fun q hq => hsp0 _ (by rw [hdl] at hq; omega)) _ h5
        rw [show (i + 1) * e + (p - (i + 1) * e) = p by omega] at this
        rw [this]
        exact congrArg some (List.getElem?_eq_some_iff.1 h3).2
    · -- in between, no room
      refine Calls.mono (hd.d b xs.length cap i vb vc ys (os.drop (i * e)) (os.take (i * e)) w hlt g1 (by omega) hby hbw hvw htl (fun j v hj => by
          rw [List.getElem?_take] at hj
          split at hj
          · exact ho2' _ _ hj
          · cases hj) hyl hys hyo hdl hdc (fun u hu => hos1 u (List.mem_of_mem_drop hu))) fun x w' hx => ?_
      obtain ⟨ROW,G,hG,hR,hT,rfl,rfl⟩ := hx
      dsimp only
      have h2 : (i + 1) * e = i * e + e := by rw [Nat.add_mul,Nat.one_mul]
      have hrest : (i + 1) * e + (xs.length - i) * e = (xs.length + 1) * e := by rw [← Nat.add_mul]; congr 1; omega
      have hGe : (xs.length + 1) * e ≤ G * e := Nat.mul_le_mul_right _ hG
      have hie1 : (i + 1) * e ≤ (xs.length + 1) * e := Nat.mul_le_mul_right _ (by omega)
      obtain ⟨W1,hW1⟩ : ∃ W1,W1 = w.drew.alloc (.cells ROW te) := ⟨_,rfl⟩
      have hW1s : W1.heap.size = w.heap.size + 1 := by rw [hW1]; show (w.heap.push _).size = _; rw [Array.size_push]
      have hW1o : ∀ c,c ≠ w.heap.size → W1.heap[c]? = w.heap[c]? := fun c hc => by rw [hW1]; show (w.heap.push _)[c]? = _; rw [Array.getElem?_push,if_neg hc]
      have hW1sh : W1.shape? w.heap.size = some (te,G * e) := by rw [hW1,← hR]; exact shape_new (w := w.drew) (c := ROW) (t := te)
      have hW1f : ∀ q,W1.frozen? ⟨w.heap.size,q,none⟩ = false := fun q => by rw [hW1]; exact World.frozen?_alloc_at (w := w.drew) ROW te w.heap.size q rfl
      have hW1c : ∀ q,W1.cell? ⟨w.heap.size,q,none⟩ = ROW[q]? := fun q => by rw [hW1]; exact World.cell?_alloc_at (w := w.drew) ROW te w.heap.size q rfl
      have hW1x : W1.os = w.os ∧ W1.output = w.output ∧ W1.tape = w.tape := by rw [hW1]; exact ⟨rfl,rfl,rfl⟩
      rw [← hW1]
      obtain ⟨s1,s2,s3⟩ := setCells_same (b := w.heap.size) ys (i * e) W1
      obtain ⟨t1,t2,t3⟩ := setCells_same (b := w.heap.size) (os.drop (i * e)) ((i + 1) * e) (W1.setCells w.heap.size (i * e) ys).drew
      have hds : ∀ c,(W1.setCells w.heap.size (i * e) ys).drew.shape? c = W1.shape? c := fun c => (rfl : (W1.setCells w.heap.size (i * e) ys).drew.shape? c = (W1.setCells w.heap.size (i * e) ys).shape? c).trans (setCells_shape _ _ _)
      rw [← hlen]
      refine out_ok hbase (z := (0,0)) (tt := te) (size := G * e) hI (fun o => hI.phi_new o) (fun c hc _ => by rw [setCells_other hc]; show (W1.setCells w.heap.size (i * e) ys).heap[c]? = _; rw [setCells_other hc]; exact hW1o c hc)
        (by rw [setCells_size]; show _ ≤ (W1.setCells w.heap.size (i * e) ys).heap.size; rw [setCells_size,hW1s]; omega) (t1.trans (s1.trans hW1x.1)) (t2.trans (s2.trans hW1x.2.1)) (t3.trans (s3.trans hW1x.2.2)) (.inr (Nat.le_refl _))
        (by rw [setCells_size]; show _ < (W1.setCells w.heap.size (i * e) ys).heap.size; rw [setCells_size,hW1s]; omega) (by omega) (Nat.le_refl _) (by rw [hlen]; exact hG) (by rw [setCells_shape,hds]; exact hW1sh)
        (fun q => by rw [World.frozen?_setCells]; show (W1.setCells w.heap.size (i * e) ys).frozen? _ = _; rw [World.frozen?_setCells]; exact hW1f q) hcs (fun p x hp => ?_) hxe'
      rcases getc hp with ⟨h1,h3⟩ | ⟨h1,h4,h3⟩ | ⟨h1,h3⟩
      · rw [World.cell?_setCells_out _ _ ((i + 1) * e) _ _ fun _ _ => .inl (by show p < _; omega)]
        show (W1.setCells w.heap.size (i * e) ys).cell? _ = _
        rw [World.cell?_setCells_out _ ys (i * e) _ _ fun _ _ => .inl h1,hW1c]
        have : (ROW.toList.take (i * e))[p]? = some x := by rw [hT,List.getElem?_take,if_pos h1]; exact h3
        rw [List.getElem?_take,if_pos h1,Array.getElem?_toList] at this
        exact this
      · rw [World.cell?_setCells_out _ _ ((i + 1) * e) _ _ fun _ _ => .inl (by show p < _; omega)]
        show (W1.setCells w.heap.size (i * e) ys).cell? _ = _
        have h5 : p - i * e < ys.length := (List.getElem?_eq_some_iff.1 h3).1
        have := World.cell?_setCells_in w.heap.size ys (i * e) W1 (fun q hq => shape_cell hW1sh (by rw [hyl] at hq; omega)) _ h5
        rw [show i * e + (p - i * e) = p by omega] at this
        rw [this]
        exact congrArg some (List.getElem?_eq_some_iff.1 h3).2
      · have h5 : p - (i + 1) * e < (os.drop (i * e)).length := (List.getElem?_eq_some_iff.1 h3).1
        have := World.cell?_setCells_in w.heap.size (os.drop (i * e)) ((i + 1) * e) (W1.setCells w.heap.size (i * e) ys).drew (fun q hq => shape_cell (by rw [hds]; exact hW1sh) (by rw [hdl] at hq; omega)) _ h5
        rw [show (i + 1) * e + (p - (i + 1) * e) = p by omega] at this
        rw [this]
        exact congrArg some (List.getElem?_eq_some_iff.1 h3).2
def kIns (f e bytes : Nat) (g : FuncId) (args : List AV) (inc : List Blk) : Option Res :=
  bif Nat.beq g f then (match args,inc with
    | [.sref (.inc 0) 0 n,.int .i64 (.ofNat i),.sref (.inc 1) 0 1],[.row e' xs true true,.row e'' [y] true true] =>
      bif Nat.beq e' e && Nat.beq e'' e && Nat.beq n xs.length && Nat.ble i n && Nat.ble ((n + 1) * bytes) 140737488355328 then some ⟨.sref (.out 0) 0 (n + 1),[.gone,.gone],[.row e (xs.take i ++ y :: xs.drop i) true true]⟩ else none
    | _,_ => none) else none
theorem kIns_ok {f : FuncId} {e bytes : Nat} (hd : ∀ (xs : List AV) (y : AV) (i : Nat), i ≤ xs.length → (xs.length + 1) * bytes ≤ 140737488355328 →
      SoundCall P Φg f [.sref (.inc 0) 0 xs.length,.int .i64 i,.sref (.inc 1) 0 1] [.row e xs true true,.row e [y] true true] ⟨.sref (.out 0) 0 (xs.length + 1),[.gone,.gone],[.row e (xs.take i ++ y :: xs.drop i) true true]⟩)
    {g : FuncId} {args : List AV} {inc : List Blk} {r : Res} (h : kIns f e bytes g args inc = some r) : SoundCall P Φg g args inc r := by
  unfold kIns at h
  cases hb : Nat.beq g f with
  | false => rw [hb] at h; cases h
  | true =>
    rw [hb] at h
    rw [Nat.beq_eq] at hb
    subst hb
    simp only [cond_true] at h
    split at h
    · rename_i n i e' xs e'' y
      cases hc : (Nat.beq e' e && Nat.beq e'' e && Nat.beq n xs.length && Nat.ble i n && Nat.ble ((n + 1) * bytes) 140737488355328) with
      | false => rw [hc] at h; cases h
      | true =>
        rw [hc] at h
        simp only [Bool.and_eq_true,Nat.beq_eq] at hc
        obtain ⟨⟨⟨⟨rfl,rfl⟩,rfl⟩,h1⟩,h2⟩ := hc
        cases h
        exact hd xs y i (Nat.le_of_ble_eq_true h1) (Nat.le_of_ble_eq_true h2)
    · cases h
structure Ent where
  f : FuncId
  args : List AV
  inc : List Blk
  r : Res
def Ent.Ok (P : Program) (Φg : Phi) (e : Ent) : Prop := SoundCall P Φg e.f e.args e.inc e.r
end
end Go.Ab
