/- What is asked of a program, once: looked at by the kernel. -/
import Derived.Test.YtmkkhaonakdgpaaDoorAbStart
namespace Go.Ab
open Go

/-! ### Plans -/
section
variable {ops : Array Oper}
def readyB (ops : Array Oper) (l : Array Bool) (i : Nat) : Bool :=
  !l.getD i true && (match ops[i]? with
    | some o => o.after.all fun e => !Region.binds .any e || l.getD e.on false
    | none => false)
theorem readyB_ok {l : Array Bool} {i : Nat} (h : readyB ops l i = true) : i ∈ Region.ready .any ops l := by
  simp only [readyB, Bool.and_eq_true, Bool.not_eq_true'] at h
  obtain ⟨h0, h1⟩ := h
  split at h1
  · rename_i o ho
    refine mem_ready.2 ⟨h0, o, ho, fun e he hb => ?_⟩
    have := Array.all_eq_true_iff_forall_mem.1 h1 e he
    simp only [hb, Bool.not_true, Bool.false_or] at this
    exact this
  · cases h1
mutual
def planB (ops : Array Oper) : Plan → Nat → Array Bool → Bool
  | .stop, _, l => (List.range ops.size).all fun i => l.getD i true
  | .sil i r, f, l => !Nat.beq f 0 && readyB ops l i && Region.free .any ops l i && planB ops r (f - 1) (l.setIfInBounds i true)
  | .eff i r, f, l => !Nat.beq f 0 && ((Region.ready .any ops l).all fun x => Nat.beq x i) && readyB ops l i && planB ops r (f - 1) (l.setIfInBounds i true)
  | .alt p q, f, l => !Nat.beq f 0 && ((Region.ready .any ops l).all fun x => (p.firsts ++ q.firsts).any (Nat.beq x)) && !p.firsts.isEmpty && altB ops p f l && altB ops q f l
def altB (ops : Array Oper) : Plan → Nat → Array Bool → Bool
  | .eff i r, f, l => readyB ops l i && planB ops r (f - 1) (l.setIfInBounds i true)
  | .alt p q, f, l => altB ops p f l && altB ops q f l
  | .stop, _, _ => false
  | .sil _ _, _, _ => false
end
theorem ne0 {f : Nat} (h : (!Nat.beq f 0) = true) : f ≠ 0 := by
  rintro rfl; simp at h
mutual
theorem planB_ok : ∀ (p : Plan) (f : Nat) (l : Array Bool), planB ops p f l = true → PlanOk ops p f l
  | .stop, f, l, h => by
    simp only [planB, List.all_eq_true, List.mem_range] at h
    unfold PlanOk
    refine List.eq_nil_iff_forall_not_mem.2 fun j hj => ?_
    obtain ⟨h0, o, ho, _⟩ := mem_ready.1 hj
    rw [h j (Array.getElem?_eq_some_iff.1 ho).1] at h0
    cases h0
  | .sil i r, f, l, h => by
    simp only [planB, Bool.and_eq_true] at h
    obtain ⟨⟨⟨h0, h1⟩, h2⟩, h3⟩ := h
    unfold PlanOk
    exact ⟨ne0 h0, readyB_ok h1, fun oi j oj hi hj hne hun hno => Region.free_spec hi h2 j oj hj hne hun hno, planB_ok r _ _ h3⟩
  | .eff i r, f, l, h => by
    simp only [planB, Bool.and_eq_true, List.all_eq_true, Nat.beq_eq] at h
    obtain ⟨⟨⟨h0, h1⟩, h2⟩, h3⟩ := h
    unfold PlanOk
    exact ⟨ne0 h0, h1, readyB_ok h2, planB_ok r _ _ h3⟩
  | .alt p q, f, l, h => by
    simp only [planB, Bool.and_eq_true, List.all_eq_true, List.any_eq_true, Nat.beq_eq, Bool.not_eq_true'] at h
    obtain ⟨⟨⟨⟨h0, h1⟩, h2⟩, h3⟩, h4⟩ := h
    unfold PlanOk
    exact ⟨ne0 (by rw [h0]; rfl), fun x hx => by obtain ⟨y, hy, rfl⟩ := h1 x hx; exact hy, fun he => (by rw [he] at h2; cases h2), altB_ok p _ _ h3, altB_ok q _ _ h4⟩
theorem altB_ok : ∀ (p : Plan) (f : Nat) (l : Array Bool), altB ops p f l = true → PlanAlt ops p f l
  | .eff i r, f, l, h => by
    simp only [altB, Bool.and_eq_true] at h
    unfold PlanAlt
    exact ⟨readyB_ok h.1, planB_ok r _ _ h.2⟩
  | .alt p q, f, l, h => by
    simp only [altB, Bool.and_eq_true] at h
    unfold PlanAlt
    exact ⟨altB_ok p _ _ h.1, altB_ok q _ _ h.2⟩
  | .stop, _, _, h => by simp [altB] at h
  | .sil _ _, _, _, h => by simp [altB] at h
end
end

/-! ### Code -/
def dstB (N : Nat) : List Oper → Bool
  | [] => true
  | o :: r => (match o.dst with | some d => Nat.blt d N | none => true) && dstB N r
theorem dstB_ok {N : Nat} : ∀ {l : List Oper}, dstB N l = true → DstOk N l
  | [], _, o, ho, _, _ => by cases ho
  | p :: r, h, o, ho, d, hd => by
    simp only [dstB, Bool.and_eq_true] at h
    rcases List.mem_cons.1 ho with rfl | ho
    · have h1 := h.1
      rw [hd] at h1
      simpa using h1
    · exact dstB_ok h.2 o ho d hd
def codeB (cfg : Cfg) (fid N : Nat) : Code → Bool
  | .region id ops draw => dstB N ops.toList && (!draw || (Region.noSelect ops && planB ops (cfg.plan fid id) ops.size (Array.replicate ops.size false)))
  | .seq a b => codeB cfg fid N a && codeB cfg fid N b
  | .cond _ a b => codeB cfg fid N a && codeB cfg fid N b
  | .block _ a => codeB cfg fid N a
  | .loop a => codeB cfg fid N a
  | _ => true
theorem codeB_ok {cfg : Cfg} {fid N : Nat} : ∀ {c : Code}, codeB cfg fid N c = true → CodeOk cfg fid N c
  | .region id ops draw, h => by
    simp only [codeB, Bool.and_eq_true, Bool.or_eq_true, Bool.not_eq_true'] at h
    refine ⟨dstB_ok h.1, fun hd => ?_⟩
    rcases h.2 with h2 | h2
    · rw [hd] at h2; cases h2
    · exact ⟨h2.1, planB_ok _ _ _ h2.2⟩
  | .seq a b, h => by simp only [codeB, Bool.and_eq_true] at h; exact ⟨codeB_ok h.1, codeB_ok h.2⟩
  | .cond _ a b, h => by simp only [codeB, Bool.and_eq_true] at h; exact ⟨codeB_ok h.1, codeB_ok h.2⟩
  | .block _ a, h => codeB_ok (c := a) h
  | .loop a, h => codeB_ok (c := a) h
  | .skip, _ => trivial
  | .label _, _ => trivial
  | .rangeFunc .., _ => trivial
  | .exit _, _ => trivial
  | .ret, _ => trivial
  | .scope _, _ => trivial
  | .goto _, _ => trivial
  | .refuse _, _ => trivial

/-! ### Types -/
def litB : AV → AV → Bool
  | .bool a, .bool b => decide (a = b)
  | .int k a, .int l b => decide (k = l) && decide (a = b)
  | .str a, .str b => decide (a = b)
  | .nilp, .nilp => true
  | .nils, .nils => true
  | .nilf, .nilf => true
  | .nili, .nili => true
  | _, _ => false
theorem litB_ok {a b : AV} (h : litB a b = true) : a = b := by
  unfold litB at h
  split at h <;> first
    | rfl
    | cases h
    | (have := of_decide_eq_true h; rw [this])
    | (simp only [Bool.and_eq_true] at h; have h1 := of_decide_eq_true h.1; have h2 := of_decide_eq_true h.2; rw [h1, h2])
def litsB : List AV → List AV → Bool
  | [], [] => true
  | a :: r, b :: q => litB a b && litsB r q
  | _, _ => false
theorem litsB_ok : ∀ {a b : List AV}, litsB a b = true → a = b
  | [], [], _ => rfl
  | a :: r, b :: q, h => by
    simp only [litsB, Bool.and_eq_true] at h
    rw [litB_ok h.1, litsB_ok h.2]
  | [], _ :: _, h => by cases h
  | _ :: _, [], h => by cases h
def zvB : AV → AV → Bool
  | .agg a, .agg b => litsB a b
  | a, b => litB a b
theorem zvB_ok {a b : AV} (h : zvB a b = true) : a = b := by
  unfold zvB at h
  split at h
  · rw [litsB_ok h]
  · exact litB_ok h
def fieldsB (tab : Tab) : List Field → List (Nat × TypeId) → Bool
  | [], [] => true
  | f :: r, (o, t) :: q => Nat.beq f.offset o && Nat.beq f.type t && (tab.get t).isSome && fieldsB tab r q
  | _, _ => false
theorem fieldsB_ok {tab : Tab} : ∀ {fs : List Field} {l : List (Nat × TypeId)}, fieldsB tab fs l = true → l.length = fs.length ∧ ∀ (i : Nat) (f : Field), fs[i]? = some f → l[i]? = some (f.offset, f.type) ∧ ∃ fi, tab.get f.type = some fi
  | [], [], _ => ⟨rfl, fun i f h => by simp at h⟩
  | f :: r, (o, t) :: q, h => by
    simp only [fieldsB, Bool.and_eq_true, Nat.beq_eq] at h
    obtain ⟨⟨⟨h1, h2⟩, h3⟩, h4⟩ := h
    obtain ⟨h5, h6⟩ := fieldsB_ok h4
    refine ⟨by simp [h5], fun i g hg => ?_⟩
    cases i with
    | zero =>
      simp at hg; subst hg
      obtain ⟨fi, hfi⟩ := Option.isSome_iff_exists.1 h3
      exact ⟨by simp [h1, h2], fi, by rw [h2]; exact hfi⟩
    | succ i => simpa using h6 i g (by simpa using hg)
  | [], _ :: _, h => by cases h
  | _ :: _, [], h => by cases h
def elemsB (e sz : Nat) : Nat → List (Nat × TypeId) → Bool
  | _, [] => true
  | j, (o, u) :: r => Nat.beq o (j * sz) && Nat.beq u e && elemsB e sz (j + 1) r
theorem elemsB_ok {e sz : Nat} : ∀ {l : List (Nat × TypeId)} {j : Nat}, elemsB e sz j l = true → ∀ (i o u : Nat), l[i]? = some (o, u) → o = (j + i) * sz ∧ u = e
  | [], _, _, i, o, u, h => by simp at h
  | (o', u') :: r, j, h, i, o, u, hi => by
    simp only [elemsB, Bool.and_eq_true, Nat.beq_eq] at h
    cases i with
    | zero => simp at hi; obtain ⟨rfl, rfl⟩ := hi; exact ⟨by simpa using h.1.1, h.1.2⟩
    | succ i =>
      have := elemsB_ok h.2 i o u (by simpa using hi)
      rw [show j + (i + 1) = j + 1 + i by omega]; exact this
def descB (tab : Tab) (d : TypeDesc) (ti : TI) : Bool :=
  match d, ti.desc with
  | .struct fs, .struct => ti.agg && fieldsB tab fs.toList ti.fields
  | .array n e, .array m f => ti.agg && Nat.beq n m && Nat.beq e f && (match tab.get e with | some te => elemsB e te.sz 0 ti.fields | none => false)
  | .slice e, .slice f => !ti.agg && Nat.beq e f
  | .int k, .int l => !ti.agg && decide (k = l)
  | .bool, .bool => !ti.agg
  | .string, .string => !ti.agg
  | .pointer e, .pointer f => !ti.agg && Nat.beq e f
  | .interface _, .iface => !ti.agg
  | .struct _, .other => false
  | .array _ _, .other => false
  | .interface _, .other => false
  | _, .other => !ti.agg
  | _, _ => false
def typeB (P : Program) (tab : Tab) (t : Nat) (ti : TI) : Bool :=
  match P.info? t, P.underlying t with
  | some i, some d => Nat.beq i.size ti.sz && Nat.beq i.bytes ti.bytes && descB tab d ti && (match ti.zero with
    | some z => (match i.zero with | some v => (match ofValue v with | some z' => zvB z' z | none => false) | none => false)
    | none => true) && (match d with
    | .struct fs => !ti.cmp || (!P.stoodInHeld t && !P.eqGuardType P.depth t && fs.toList.all fun f => !(f.name == "_"))
    | .array _ _ => !ti.cmp || !P.eqGuardType P.depth t
    | _ => true)
  | _, _ => false
def cmpB (P : Program) (t : Nat) (ti : TI) : Bool := !ti.cmp || (match P.info? t with | some i => i.comparable | none => false)
def tabB (P : Program) (tab : Tab) : Tab → Bool
  | [] => true
  | (t, ti) :: r => (typeB P tab t ti && cmpB P t ti) && tabB P tab r
theorem tabB_get {P : Program} {tab : Tab} : ∀ {l : Tab}, tabB P tab l = true → ∀ {t ti}, Tab.get l t = some ti → typeB P tab t ti = true ∧ cmpB P t ti = true
  | [], _, t, ti, h => by cases h
  | (a, x) :: r, hb, t, ti, h => by
    simp only [tabB, Bool.and_eq_true] at hb
    simp only [Tab.get] at h
    cases hc : Nat.beq a t with
    | true => rw [hc] at h; cases h; rw [Nat.beq_eq] at hc; subst hc; exact hb.1
    | false => rw [hc] at h; exact tabB_get hb.2 h
theorem tabB_ok {P : Program} {tab : Tab} (h : tabB P tab tab = true) : TabOK P tab := by
  refine ⟨fun t ti ht => ?_, fun t ti fs ht hcmp hfs => ?_, fun t ti l e ht hcmp hfs => ?_, fun t ti ht hcmp => ?_⟩
  rotate_left
  · have hb := (tabB_get h ht).1
    unfold typeB at hb
    split at hb
    · rename_i i d hi hd
      simp only [Bool.and_eq_true] at hb
      have h5 := hb.2
      rw [hfs] at hd
      cases hd
      simp only [hcmp, Bool.not_true, Bool.false_or, Bool.and_eq_true, Bool.not_eq_true', List.all_eq_true] at h5
      exact ⟨h5.1.1, h5.1.2, fun f hf he => by have := h5.2 f hf; rw [he] at this; simp at this⟩
    · cases hb
  · have hb := (tabB_get h ht).1
    unfold typeB at hb
    split at hb
    · rename_i i d hi hd
      simp only [Bool.and_eq_true] at hb
      have h5 := hb.2
      rw [hfs] at hd
      cases hd
      simp only [hcmp, Bool.not_true, Bool.false_or, Bool.not_eq_true'] at h5
      exact h5
    · cases hb
  · have hb := (tabB_get h ht).2
    simp only [cmpB, hcmp, Bool.not_true, Bool.false_or] at hb
    split at hb
    · rename_i i hi; exact ⟨i, hi, hb⟩
    · cases hb
  have hb := (tabB_get h ht).1
  unfold typeB at hb
  split at hb
  · rename_i i d hi hd
    simp only [Bool.and_eq_true, Nat.beq_eq] at hb
    obtain ⟨⟨⟨⟨h1, h2⟩, h3⟩, h4⟩, h5⟩ := hb
    clear h5
    have hz : ∀ z, ti.zero = some z → ∃ v, i.zero = some v ∧ ofValue v = some z := fun z hz => by
      rw [hz] at h4
      dsimp only at h4
      split at h4
      · rename_i v hv
        split at h4
        · rename_i z' hz'
          exact ⟨v, hv, by rw [hz', zvB_ok h4]⟩
        · cases h4
      · cases h4
    refine ⟨i, d, hi, h1, h2, hd, ?_⟩
    clear h4
    unfold descB at h3
    split at h3
    · rename_i fs hdd
      simp only [Bool.and_eq_true] at h3
      obtain ⟨f1, f2⟩ := fieldsB_ok h3.2
      refine ⟨?_, ⟨fun _ => .inl ⟨fs, rfl⟩, fun _ => h3.1⟩, hz, fun n e he => (by cases he), fun fs' he => by cases he; exact ⟨by simpa using f1, fun j f hj => f2 j f (by simpa using hj)⟩⟩
      unfold ShOk
      rw [hdd]
      refine ⟨fs, rfl, fun j o t' hj => ?_⟩
      have hlt : j < fs.toList.length := by rw [← f1]; exact (List.getElem?_eq_some_iff.1 hj).1
      obtain ⟨g1, _⟩ := f2 j _ (List.getElem?_eq_getElem hlt)
      rw [hj] at g1
      refine ⟨fs[j]'(by simpa using hlt), by simp [show j < fs.size by simpa using hlt], ?_, ?_⟩
      · have := congrArg (fun x => (x.getD (0, 0)).1) g1; simpa using this.symm
      · have := congrArg (fun x => (x.getD (0, 0)).2) g1; simpa using this.symm
    · rename_i n e m f hdd
      simp only [Bool.and_eq_true, Nat.beq_eq] at h3
      obtain ⟨⟨⟨g1, g2⟩, g3⟩, g4⟩ := h3
      subst g2 g3
      split at g4
      · rename_i te hte
        have hel := elemsB_ok g4
        refine ⟨?_, ⟨fun _ => .inr ⟨n, e, rfl⟩, fun _ => g1⟩, hz, fun n' e' he => ?_, fun fs' he => (by cases he)⟩
        · unfold ShOk
          rw [hdd]
          exact ⟨rfl, fun j o t' hj => (hel j o t' hj).2⟩
        · cases he
          exact ⟨te, hte, fun j o u hj => by have := hel j o u hj; simpa using this⟩
      · cases g4
    · rename_i e f hdd
      simp only [Bool.and_eq_true, Nat.beq_eq, Bool.not_eq_true'] at h3
      obtain ⟨g1, rfl⟩ := h3
      exact ⟨by unfold ShOk; rw [hdd], ⟨fun h => (by rw [g1] at h; cases h), fun h => (by rcases h with ⟨_, h⟩ | ⟨_, _, h⟩ <;> cases h)⟩, hz, fun n' e' he => (by cases he), fun fs' he => (by cases he)⟩
    · rename_i k l hdd
      simp only [Bool.and_eq_true, Bool.not_eq_true'] at h3
      obtain ⟨g1, g2⟩ := h3
      obtain rfl := of_decide_eq_true g2
      exact ⟨by unfold ShOk; rw [hdd], ⟨fun h => (by rw [g1] at h; cases h), fun h => (by rcases h with ⟨_, h⟩ | ⟨_, _, h⟩ <;> cases h)⟩, hz, fun n' e' he => (by cases he), fun fs' he => (by cases he)⟩
    · rename_i hdd
      simp only [Bool.not_eq_true'] at h3
      exact ⟨by unfold ShOk; rw [hdd], ⟨fun h => (by rw [h3] at h; cases h), fun h => (by rcases h with ⟨_, h⟩ | ⟨_, _, h⟩ <;> cases h)⟩, hz, fun n' e' he => (by cases he), fun fs' he => (by cases he)⟩
    · rename_i hdd
      simp only [Bool.not_eq_true'] at h3
      exact ⟨by unfold ShOk; rw [hdd], ⟨fun h => (by rw [h3] at h; cases h), fun h => (by rcases h with ⟨_, h⟩ | ⟨_, _, h⟩ <;> cases h)⟩, hz, fun n' e' he => (by cases he), fun fs' he => (by cases he)⟩
    · rename_i e f hdd
      simp only [Bool.and_eq_true, Nat.beq_eq, Bool.not_eq_true'] at h3
      obtain ⟨g1, rfl⟩ := h3
      exact ⟨by unfold ShOk; rw [hdd], ⟨fun h => (by rw [g1] at h; cases h), fun h => (by rcases h with ⟨_, h⟩ | ⟨_, _, h⟩ <;> cases h)⟩, hz, fun n' e' he => (by cases he), fun fs' he => (by cases he)⟩
    · rename_i ms hdd
      simp only [Bool.not_eq_true'] at h3
      exact ⟨by unfold ShOk; rw [hdd]; exact ⟨ms, rfl⟩, ⟨fun h => (by rw [h3] at h; cases h), fun h => (by rcases h with ⟨_, h⟩ | ⟨_, _, h⟩ <;> cases h)⟩, hz, fun n' e' he => (by cases he), fun fs' he => (by cases he)⟩
    · cases h3
    · cases h3
    · cases h3
    · rename_i n1 n2 n3 hdd
      simp only [Bool.not_eq_true'] at h3
      refine ⟨by unfold ShOk; rw [hdd]; exact ⟨n1, n2, n3⟩, ⟨fun h => (by rw [h3] at h; cases h), fun h => ?_⟩, hz, fun n' e' he => (n2 n' e' he).elim, fun fs' he => (n1 fs' he).elim⟩
      rcases h with ⟨_, h⟩ | ⟨_, _, h⟩
      · exact (n1 _ h).elim
      · exact (n2 _ _ h).elim
    · cases h3
  · cases hb
end Go.Ab
