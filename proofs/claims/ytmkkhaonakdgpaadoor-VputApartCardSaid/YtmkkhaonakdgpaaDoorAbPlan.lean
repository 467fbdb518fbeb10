/- Plans of large regions, looked at over lists: a digest of each operation, told beforehand. -/
import Derived.Test.YtmkkhaonakdgpaaDoorAbTop
namespace Go.Ab
open Go

/-- Of an operation: where its value goes, which temporaries it looks at, for which operations it waits. -/
abbrev Dig := Option Nat × List Nat × List Nat
def memN (n : Nat) : List Nat → Bool
  | [] => false
  | a :: r => Nat.beq a n || memN n r
theorem memN_iff {n : Nat} : ∀ {l : List Nat}, memN n l = true ↔ n ∈ l
  | [] => by simp [memN]
  | a :: r => by
    simp only [memN, Bool.or_eq_true, Nat.beq_eq, List.mem_cons, memN_iff (l := r)]
    exact ⟨fun h => h.imp Eq.symm id, fun h => h.imp Eq.symm id⟩
def waits : List Edge → List Nat
  | [] => []
  | e :: r => bif Region.binds .any e then e.on :: waits r else waits r
theorem mem_waits {i : Nat} : ∀ {l : List Edge}, i ∈ waits l ↔ ∃ e ∈ l, Region.binds .any e = true ∧ e.on = i
  | [] => by simp [waits]
  | e :: r => by
    unfold waits
    cases h : Region.binds .any e with
    | true =>
      simp only [cond_true, List.mem_cons, mem_waits (l := r)]
      constructor
      · rintro (rfl | ⟨e', h1, h2⟩)
        · exact ⟨e, .inl rfl, h, rfl⟩
        · exact ⟨e', .inr h1, h2⟩
      · rintro ⟨e', rfl | h1, h2, h3⟩
        · exact .inl h3.symm
        · exact .inr ⟨e', h1, h2, h3⟩
    | false =>
      simp only [cond_false, List.mem_cons, mem_waits (l := r)]
      constructor
      · rintro ⟨e', h1, h2⟩; exact ⟨e', .inr h1, h2⟩
      · rintro ⟨e', rfl | h1, h2, h3⟩
        · rw [h] at h2; cases h2
        · exact ⟨e', h1, h2, h3⟩
def digOf (ops : Array Oper) (o : Oper) : Dig := (o.dst, o.looksAt ops, waits o.after.toList)
def eqO : Option Nat → Option Nat → Bool
  | some a, some b => Nat.beq a b
  | none, none => true
  | _, _ => false
def eqL : List Nat → List Nat → Bool
  | [], [] => true
  | a :: r, b :: q => Nat.beq a b && eqL r q
  | _, _ => false
theorem eqO_ok {a b : Option Nat} (h : eqO a b = true) : a = b := by
  unfold eqO at h; split at h
  · rw [Nat.beq_eq] at h; rw [h]
  · rfl
  · cases h
theorem eqL_ok : ∀ {a b : List Nat}, eqL a b = true → a = b
  | [], [], _ => rfl
  | a :: r, b :: q, h => by
    simp only [eqL, Bool.and_eq_true, Nat.beq_eq] at h
    rw [h.1, eqL_ok h.2]
  | [], _ :: _, h => by cases h
  | _ :: _, [], h => by cases h
def digB (ops : Array Oper) : List Oper → List Dig → Bool
  | [], [] => true
  | o :: r, (a, b, c) :: q => eqO o.dst a && eqL (o.looksAt ops) b && eqL (waits o.after.toList) c && digB ops r q
  | _, _ => false
theorem digB_ok {ops : Array Oper} : ∀ {l : List Oper} {D : List Dig}, digB ops l D = true → l.map (digOf ops) = D
  | [], [], _ => rfl
  | o :: r, (a, b, c) :: q, h => by
    simp only [digB, Bool.and_eq_true] at h
    rw [List.map_cons, digB_ok h.2, digOf, eqO_ok h.1.1.1, eqL_ok h.1.1.2, eqL_ok h.1.2]
  | [], _ :: _, h => by cases h
  | _ :: _, [], h => by cases h

def apartD (x y : Dig) : Bool :=
  (match x.1 with | some d => !memN d y.2.1 && !eqO y.1 (some d) | none => true) && (match y.1 with | some d => !memN d x.2.1 | none => true)
theorem apartD_ok {ops : Array Oper} {x y : Oper} (h : apartD (digOf ops x) (digOf ops y) = true) : x.apart ops y = true := by
  simp only [apartD, digOf, Bool.and_eq_true] at h
  unfold Oper.apart
  rw [Bool.and_eq_true]
  constructor
  · cases hx : x.dst with
    | none => rfl
    | some d =>
      have h1 := h.1
      rw [hx] at h1
      simp only [Bool.and_eq_true, Bool.not_eq_true'] at h1 ⊢
      constructor
      · cases hc : (y.looksAt ops).contains d with
        | false => rfl
        | true => rw [memN_iff.2 (by simpa using hc)] at h1; cases h1.1
      · simp only [bne_iff_ne, ne_eq]
        intro hy
        rw [hy] at h1
        simp [eqO] at h1
  · cases hy : y.dst with
    | none => rfl
    | some d =>
      have h2 := h.2
      rw [hy] at h2
      simp only [Bool.not_eq_true'] at h2 ⊢
      cases hc : (x.looksAt ops).contains d with
      | false => rfl
      | true => rw [memN_iff.2 (by simpa using hc)] at h2; cases h2

def nthB : List Bool → Nat → Bool
  | [], _ => false
  | b :: _, 0 => b
  | _ :: r, n + 1 => nthB r n
def setB : List Bool → Nat → List Bool
  | [], _ => []
  | _ :: r, 0 => true :: r
  | b :: r, n + 1 => b :: setB r n
def allIn (l : List Bool) : List Nat → Bool
  | [] => true
  | a :: r => nthB l a && allIn l r
def nthD : List Dig → Nat → Option Dig
  | [], _ => none
  | d :: _, 0 => some d
  | _ :: r, n + 1 => nthD r n
def freeL (i : Nat) (x : Dig) : Nat → List Dig → List Bool → Bool
  | _, [], _ => true
  | j, y :: r, b :: l => (b || Nat.beq j i || memN i y.2.2 || apartD x y) && freeL i x (j + 1) r l
  | _, _ :: _, [] => false
/-- What may come up now: only these. -/
def onlyL (ok : Nat → Bool) (full : List Bool) : Nat → List Dig → List Bool → Bool
  | _, [], _ => true
  | j, y :: r, b :: l => (b || !allIn full y.2.2 || ok j) && onlyL ok full (j + 1) r l
  | _, _ :: _, [] => false
def readyL (D : List Dig) (l : List Bool) (i : Nat) : Bool :=
  !nthB l i && (match nthD D i with | some d => allIn l d.2.2 | none => false)
mutual
def planL (D : List Dig) : Plan → Nat → List Bool → Bool
  | .stop, _, l => l.all id
  | .sil i r, f, l => !Nat.beq f 0 && readyL D l i && (match nthD D i with | some d => freeL i d 0 D l | none => false) && planL D r (f - 1) (setB l i)
  | .eff i r, f, l => !Nat.beq f 0 && onlyL (fun x => Nat.beq x i) l 0 D l && readyL D l i && planL D r (f - 1) (setB l i)
  | .alt p q, f, l => !Nat.beq f 0 && onlyL (fun x => (p.firsts ++ q.firsts).any (Nat.beq x)) l 0 D l && !p.firsts.isEmpty && altL D p f l && altL D q f l
def altL (D : List Dig) : Plan → Nat → List Bool → Bool
  | .eff i r, f, l => readyL D l i && planL D r (f - 1) (setB l i)
  | .alt p q, f, l => altL D p f l && altL D q f l
  | .stop, _, _ => false
  | .sil _ _, _, _ => false
end

section
variable {ops : Array Oper} {D : List Dig}
theorem nthB_get : ∀ (l : List Bool) (i : Nat), nthB l i = l.toArray.getD i false
  | [], i => by simp [nthB]
  | b :: r, 0 => by simp [nthB]
  | b :: r, i + 1 => by simp only [nthB]; rw [nthB_get r i]; simp [Array.getD_eq_getD_getElem?]
theorem setB_set : ∀ (l : List Bool) (i : Nat), (setB l i).toArray = l.toArray.setIfInBounds i true
  | [], i => by simp [setB]
  | b :: r, 0 => by simp [setB]
  | b :: r, i + 1 => by
    apply Array.ext'
    have := congrArg Array.toList (setB_set r i)
    simp at this
    simp [setB, this]
theorem setB_len : ∀ (l : List Bool) (i : Nat), (setB l i).length = l.length
  | [], _ => rfl
  | b :: r, 0 => rfl
  | b :: r, i + 1 => by simp [setB, setB_len r i]
theorem allIn_ok {l : List Bool} : ∀ {w : List Nat}, allIn l w = true ↔ ∀ x ∈ w, nthB l x = true
  | [] => by simp [allIn]
  | a :: r => by simp [allIn, allIn_ok (w := r)]
theorem nthD_get : ∀ (D : List Dig) (i : Nat), nthD D i = D[i]?
  | [], i => by simp [nthD]
  | d :: r, 0 => by simp [nthD]
  | d :: r, i + 1 => by simp only [nthD, List.getElem?_cons_succ]; exact nthD_get r i
theorem dig_get (hD : ops.toList.map (digOf ops) = D) {i : Nat} {d : Dig} (h : D[i]? = some d) : ∃ o, ops[i]? = some o ∧ d = digOf ops o := by
  rw [← hD, List.getElem?_map] at h
  cases ho : ops.toList[i]? with
  | none => rw [ho] at h; cases h
  | some o => rw [ho] at h; cases h; exact ⟨o, by simpa using ho, rfl⟩
theorem getD_len {l : List Bool} (hl : l.length = ops.size) {i : Nat} (hi : i < ops.size) : l.toArray.getD i true = l.toArray.getD i false := by
  have h2 : i < l.length := by omega
  simp [Array.getD_eq_getD_getElem?, h2]
theorem readyL_ok (hD : ops.toList.map (digOf ops) = D) {l : List Bool} (hl : l.length = ops.size) {i : Nat} (h : readyL D l i = true) : i ∈ Region.ready .any ops l.toArray := by
  simp only [readyL, Bool.and_eq_true, Bool.not_eq_true', nthD_get] at h
  obtain ⟨h0, h1⟩ := h
  split at h1
  · rename_i d hd
    obtain ⟨o, ho, rfl⟩ := dig_get hD hd
    refine mem_ready.2 ⟨?_, o, ho, fun e he hb => ?_⟩
    · rw [getD_len hl (Array.getElem?_eq_some_iff.1 ho).1, ← nthB_get]; exact h0
    · rw [← nthB_get]
      exact allIn_ok.1 h1 _ (mem_waits.2 ⟨e, by simpa using he, hb, rfl⟩)
  · cases h1
theorem freeL_ok {i : Nat} {x : Dig} : ∀ {D : List Dig} {l : List Bool} {j : Nat}, freeL i x j D l = true → ∀ k y, D[k]? = some y → nthB l k = true ∨ j + k = i ∨ i ∈ y.2.2 ∨ apartD x y = true
  | [], _, _, _, k, y, h => by simp at h
  | d :: r, [], j, h, _, _, _ => by cases h
  | d :: r, b :: l, j, h, k, y, hk => by
    simp only [freeL, Bool.and_eq_true, Bool.or_eq_true, Nat.beq_eq] at h
    cases k with
    | zero =>
      simp at hk; subst hk
      rcases h.1 with ((h1 | h1) | h1) | h1
      · exact .inl h1
      · exact .inr (.inl h1)
      · exact .inr (.inr (.inl (memN_iff.1 h1)))
      · exact .inr (.inr (.inr h1))
    | succ k =>
      have := freeL_ok h.2 k y (by simpa using hk)
      rcases this with h1 | h1 | h1
      · exact .inl h1
      · exact .inr (.inl (by omega))
      · exact .inr (.inr h1)
theorem onlyL_ok {ok : Nat → Bool} {full : List Bool} : ∀ {D : List Dig} {l : List Bool} {j : Nat}, onlyL ok full j D l = true → ∀ k y, D[k]? = some y → nthB l k = true ∨ allIn full y.2.2 = false ∨ ok (j + k) = true
  | [], _, _, _, k, y, h => by simp at h
  | d :: r, [], j, h, _, _, _ => by cases h
  | d :: r, b :: l, j, h, k, y, hk => by
    simp only [onlyL, Bool.and_eq_true, Bool.or_eq_true, Bool.not_eq_true'] at h
    cases k with
    | zero =>
      simp at hk; subst hk
      rcases h.1 with (h1 | h1) | h1
      · exact .inl h1
      · exact .inr (.inl h1)
      · exact .inr (.inr h1)
    | succ k =>
      have := onlyL_ok h.2 k y (by simpa using hk)
      rcases this with h1 | h1 | h1
      · exact .inl h1
      · exact .inr (.inl h1)
      · exact .inr (.inr (by rw [show j + (k + 1) = j + 1 + k by omega]; exact h1))
theorem only_ready (hD : ops.toList.map (digOf ops) = D) {l : List Bool} (hl : l.length = ops.size) {ok : Nat → Bool} (h : onlyL ok l 0 D l = true) : ∀ x ∈ Region.ready .any ops l.toArray, ok x = true := by
  intro x hx
  obtain ⟨h0, o, ho, hall⟩ := mem_ready.1 hx
  have hd : D[x]? = some (digOf ops o) := by
    rw [← hD, List.getElem?_map]
    have : ops.toList[x]? = some o := by simpa using ho
    rw [this]; rfl
  rcases onlyL_ok h x _ hd with h1 | h1 | h1
  · rw [getD_len hl (Array.getElem?_eq_some_iff.1 ho).1, ← nthB_get, h1] at h0; cases h0
  · have : allIn l (digOf ops o).2.2 = true := allIn_ok.2 fun y hy => by
      obtain ⟨e, he, hb, rfl⟩ := mem_waits.1 hy
      rw [nthB_get]; exact hall e (by simpa using he) hb
    rw [this] at h1; cases h1
  · simpa using h1
mutual
theorem planL_ok (hD : ops.toList.map (digOf ops) = D) : ∀ (p : Plan) (f : Nat) (l : List Bool), l.length = ops.size → planL D p f l = true → PlanOk ops p f l.toArray
  | .stop, f, l, hl, h => by
    simp only [planL, List.all_eq_true, id] at h
    unfold PlanOk
    refine List.eq_nil_iff_forall_not_mem.2 fun j hj => ?_
    obtain ⟨h0, o, ho, _⟩ := mem_ready.1 hj
    have hlt : j < l.length := by rw [hl]; exact (Array.getElem?_eq_some_iff.1 ho).1
    have := h l[j] (List.getElem_mem hlt)
    simp [Array.getD_eq_getD_getElem?, hlt, this] at h0
  | .sil i r, f, l, hl, h => by
    simp only [planL, Bool.and_eq_true] at h
    obtain ⟨⟨⟨h0, h1⟩, h2⟩, h3⟩ := h
    unfold PlanOk
    refine ⟨ne0 h0, readyL_ok hD hl h1, fun oi j oj hi hj hne hun hno => ?_, by rw [← setB_set]; exact planL_ok hD r _ _ (by rw [setB_len]; exact hl) h3⟩
    rw [nthD_get] at h2
    split at h2
    · rename_i d hd
      obtain ⟨o, ho, rfl⟩ := dig_get hD hd
      rw [hi] at ho; cases ho
      have hdj : D[j]? = some (digOf ops oj) := by
        rw [← hD, List.getElem?_map]
        have : ops.toList[j]? = some oj := by simpa using hj
        rw [this]; rfl
      rcases freeL_ok h2 j _ hdj with h4 | h4 | h4 | h4
      · rw [getD_len hl (Array.getElem?_eq_some_iff.1 hj).1, ← nthB_get, h4] at hun; cases hun
      · exact absurd (by omega) hne
      · obtain ⟨e, he, hb, hon⟩ := mem_waits.1 h4
        exact absurd hon (hno e (by simpa using he) hb)
      · exact apartD_ok h4
    · cases h2
  | .eff i r, f, l, hl, h => by
    simp only [planL, Bool.and_eq_true] at h
    obtain ⟨⟨⟨h0, h1⟩, h2⟩, h3⟩ := h
    unfold PlanOk
    exact ⟨ne0 h0, fun x hx => by simpa using only_ready hD hl h1 x hx, readyL_ok hD hl h2, by rw [← setB_set]; exact planL_ok hD r _ _ (by rw [setB_len]; exact hl) h3⟩
  | .alt p q, f, l, hl, h => by
    simp only [planL, Bool.and_eq_true, Bool.not_eq_true'] at h
    obtain ⟨⟨⟨⟨h0, h1⟩, h2⟩, h3⟩, h4⟩ := h
    unfold PlanOk
    refine ⟨ne0 (by rw [h0]; rfl), fun x hx => ?_, fun he => (by rw [he] at h2; cases h2), altL_ok hD p _ _ hl h3, altL_ok hD q _ _ hl h4⟩
    have := only_ready hD hl h1 x hx
    simp only [List.any_eq_true, Nat.beq_eq] at this
    obtain ⟨y, hy, rfl⟩ := this
    exact hy
theorem altL_ok (hD : ops.toList.map (digOf ops) = D) : ∀ (p : Plan) (f : Nat) (l : List Bool), l.length = ops.size → altL D p f l = true → PlanAlt ops p f l.toArray
  | .eff i r, f, l, hl, h => by
    simp only [altL, Bool.and_eq_true] at h
    unfold PlanAlt
    exact ⟨readyL_ok hD hl h.1, by rw [← setB_set]; exact planL_ok hD r _ _ (by rw [setB_len]; exact hl) h.2⟩
  | .alt p q, f, l, hl, h => by
    simp only [altL, Bool.and_eq_true] at h
    unfold PlanAlt
    exact ⟨altL_ok hD p _ _ hl h.1, altL_ok hD q _ _ hl h.2⟩
  | .stop, _, _, _, h => by simp [altL] at h
  | .sil _ _, _, _, _, h => by simp [altL] at h
end
end
/-- Code, with digests of its large regions. -/
def codeL (cfg : Cfg) (dg : Nat → Option (List Dig)) (fid N : Nat) : Code → Bool
  | .region id ops draw => dstB N ops.toList && (!draw || (Region.noSelect ops && (match dg id with
    | some D => digB ops ops.toList D && planL D (cfg.plan fid id) ops.size (List.replicate ops.size false)
    | none => planB ops (cfg.plan fid id) ops.size (Array.replicate ops.size false))))
  | .seq a b => codeL cfg dg fid N a && codeL cfg dg fid N b
  | .cond _ a b => codeL cfg dg fid N a && codeL cfg dg fid N b
  | .block _ a => codeL cfg dg fid N a
  | .loop a => codeL cfg dg fid N a
  | _ => true
theorem codeL_ok {cfg : Cfg} {dg : Nat → Option (List Dig)} {fid N : Nat} : ∀ {c : Code}, codeL cfg dg fid N c = true → CodeOk cfg fid N c
  | .region id ops draw, h => by
    simp only [codeL, Bool.and_eq_true, Bool.or_eq_true, Bool.not_eq_true'] at h
    refine ⟨dstB_ok h.1, fun hd => ?_⟩
    rcases h.2 with h2 | h2
    · rw [hd] at h2; cases h2
    · refine ⟨h2.1, ?_⟩
      have h3 := h2.2
      split at h3
      · rename_i D _
        rw [Bool.and_eq_true] at h3
        have := planL_ok (digB_ok h3.1) (cfg.plan fid id) ops.size (List.replicate ops.size false) (by simp) h3.2
        simpa using this
      · exact planB_ok _ _ _ h3
  | .seq a b, h => by simp only [codeL, Bool.and_eq_true] at h; exact ⟨codeL_ok h.1, codeL_ok h.2⟩
  | .cond _ a b, h => by simp only [codeL, Bool.and_eq_true] at h; exact ⟨codeL_ok h.1, codeL_ok h.2⟩
  | .block _ a, h => codeL_ok (c := a) h
  | .loop a, h => codeL_ok (c := a) h
  | .skip, _ => trivial
  | .label _, _ => trivial
  | .rangeFunc .., _ => trivial
  | .exit _, _ => trivial
  | .ret, _ => trivial
  | .scope _, _ => trivial
  | .goto _, _ => trivial
  | .refuse _, _ => trivial
end Go.Ab
