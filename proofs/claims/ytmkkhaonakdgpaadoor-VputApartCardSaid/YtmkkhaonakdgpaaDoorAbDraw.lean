/- Regions that draw their order: one order that puts first what leaves memory alone serves every order. -/
import Derived.Orders
import Derived.Tactics
import Derived.Test.YtmkkhaonakdgpaaDoorAbDef
namespace Go.Ab
open Go
section
variable {P : Program} {ops : Array Oper} {Q : Exit → Act → World → Prop}

/-- j waits for i. -/
def Bound (ops : Array Oper) (i j : Nat) : Prop := ∃ o e, ops[j]? = some o ∧ e ∈ o.after ∧ Region.binds .any e = true ∧ e.on = i
inductive Anc (ops : Array Oper) : Nat → Nat → Prop
  | one {i j : Nat} : Bound ops i j → Anc ops i j
  | step {i x j : Nat} : Anc ops i x → Bound ops x j → Anc ops i j

/-- What stands listed has listed all that it waits for. -/
def Down (ops : Array Oper) (listed : Array Bool) : Prop := ∀ x y, listed.getD x false = true → Bound ops y x → listed.getD y false = true
theorem Down.anc {listed : Array Bool} (h : Down ops listed) {i j : Nat} (ha : Anc ops i j) (hj : j ∈ Region.ready .any ops listed) : listed.getD i false = true := by
  have key : ∀ {i x}, Anc ops i x → listed.getD x false = true → listed.getD i false = true := by
    intro i x ha
    induction ha with
    | one hb => exact fun hx => h _ _ hx hb
    | step _ hb ih => exact fun hx => ih (h _ _ hx hb)
  obtain ⟨_, o, ho, hall⟩ := mem_ready.1 hj
  have hb : ∀ x, Bound ops x j → listed.getD x false = true := fun x ⟨o', e, ho', he, hbi, hon⟩ => by
    rw [ho] at ho'; cases ho'; exact hon ▸ hall e he hbi
  cases ha with
  | one hbd => exact hb _ hbd
  | step ha' hbd => exact key ha' (hb _ hbd)
theorem Down.add {listed : Array Bool} (h : Down ops listed) {j : Nat} (hj : j ∈ Region.ready .any ops listed) : Down ops (listed.setIfInBounds j true) := by
  intro x y hx hb
  by_cases hxj : j = x
  · subst hxj
    obtain ⟨_, o, ho, hall⟩ := mem_ready.1 hj
    obtain ⟨o', e, ho', he, hbi, hon⟩ := hb
    rw [ho] at ho'; cases ho'
    exact getD_set_true (hon ▸ hall e he hbi)
  · rw [getD_set_ne false hxj] at hx
    exact getD_set_true (h x y hx hb)
theorem Down.none {n : Nat} : Down ops (Array.replicate n false) := fun x y h _ => by
  simp only [Array.getD_eq_getD_getElem?, Array.getElem?_replicate] at h
  split at h <;> cases h

/-- Whatever order is picked from here on, each step doing to the world what 'F' says. -/
def wpF (P : Program) (ops : Array Oper) (Q : Exit → Act → World → Prop) (F : Nat → World → World → Prop) : Nat → Array Bool → Act → World → Prop
  | 0, listed, a, w => Region.ready .any ops listed = [] ∧ Q .normal a w
  | fuel + 1, listed, a, w =>
    (Region.ready .any ops listed = [] → Q .normal a w) ∧
    ∀ i ∈ Region.ready .any ops listed, wpOp P ops Q i (fun a' w' => F i w w' ∧ wpF P ops Q F fuel (listed.setIfInBounds i true) a' w') a w

theorem wpF_any {F : Nat → World → World → Prop} : ∀ (fuel : Nat) (listed : Array Bool) (a : Act) (w : World), wpF P ops Q F fuel listed a w → wpAny P .any ops Q fuel listed a w
  | 0, _, _, _, h => h
  | fuel + 1, _, _, _, h => ⟨h.1, fun i hi => wpOp_mono (fun _ _ hk => wpF_any fuel _ _ _ hk.2) (h.2 i hi)⟩
theorem wpF_mono {F F' : Nat → World → World → Prop} (hF : ∀ i w w', F i w w' → F' i w w') : ∀ (fuel : Nat) (listed : Array Bool) (a : Act) (w : World), wpF P ops Q F fuel listed a w → wpF P ops Q F' fuel listed a w
  | 0, _, _, _, h => h
  | fuel + 1, _, _, _, h => ⟨h.1, fun i hi => wpOp_mono (fun _ _ hk => ⟨hF _ _ _ hk.1, wpF_mono hF fuel _ _ _ hk.2⟩) (h.2 i hi)⟩

/-- In state 'a', in every world of 'S', the operation leaves 'v' in its temporary and the world alone. -/
def YieldsAt (P : Program) (ops : Array Oper) (S : World → Prop) (o : Oper) (v : Value) (a : Act) : Prop :=
  (Region.wanted o (yielded ops a.tmps) = true ∧ ∀ w, S w → (execOp a.eval o).run P w = .ok (.value v) w) ∨
  (Region.wanted o (yielded ops a.tmps) = false ∧ v = undef)
theorem YieldsAt.wpOp {S : World → Prop} {i : Nat} {o : Oper} {v : Value} {a : Act} (hi : ops[i]? = some o) (hy : YieldsAt P ops S o v a)
    {K : Act → World → Prop} {w : World} (hS : S w) (h : K (a.put o.dst v) w) : wpOp P ops Q i K a w := by
  unfold Go.wpOp
  simp only [hi]
  rcases hy with ⟨hw, hv⟩ | ⟨hw, rfl⟩
  · simp only [hw, if_true, Oper.wp, hv w hS, Oper.upon]; exact .inl h
  · simp only [hw, Bool.false_eq_true, if_false]; exact h
theorem YieldsAt.of_same {S : World → Prop} {o : Oper} {v : Value} {a a' : Act} (hy : YieldsAt P ops S o v a) (he : execOp a'.eval o = execOp a.eval o)
    (hw : Region.wanted o (yielded ops a'.tmps) = Region.wanted o (yielded ops a.tmps)) : YieldsAt P ops S o v a' := by
  unfold YieldsAt at *
  rw [he, hw]
  exact hy

theorem wpOp_swap {S : World → Prop} {j : Nat} {oi oj : Oper} {v : Value} {F : World → World → Prop} (hj : ops[j]? = some oj) (hap : oi.apart ops oj = true)
    (hsi : ∀ cs b, oi.op ≠ .select cs b) (hsj : ∀ cs b, oj.op ≠ .select cs b)
    (hQ : ∀ c a w, Q (.panic c) (a.put oi.dst v) w → Q (.panic c) a w) {K : Act → World → Prop} {a : Act} {w : World} (hF : ∀ w', F w w' → S w → S w') (hS : S w)
    (hy : YieldsAt P ops S oi v a) (h : wpOp P ops Q j (fun a' w' => F w w' ∧ K a' w') (a.put oi.dst v) w) :
    wpOp P ops Q j (fun a' w' => F w w' ∧ S w' ∧ YieldsAt P ops S oi v a' ∧ K (a'.put oi.dst v) w') a w := by
  obtain ⟨h1, h2, h3⟩ := Oper.apart_spec hap
  have keep : ∀ (a : Act), YieldsAt P ops S oi v a → ∀ u, YieldsAt P ops S oi v (a.put oj.dst u) := fun a hy u =>
    hy.of_same (execOp_put oi hsi a oj.dst u h3) (wanted_put oi a oj.dst u h3)
  have keepD : ∀ d, YieldsAt P ops S oi v { a with defers := d :: a.defers } := fun d => hy.of_same rfl rfl
  unfold wpOp at *
  simp only [hj] at *
  rw [wanted_put oj a oi.dst v h1] at h
  split
  · rename_i hw
    simp only [hw, if_true] at h
    rcases h with h | ⟨hasks, hlets⟩
    case inr => exact .inr ⟨by unfold Oper.asks at *; rw [execOp_put oj hsj a oi.dst v h1] at hasks; exact hasks, hlets⟩
    refine .inl ?_
    unfold Oper.wp at *
    rw [execOp_put oj hsj a oi.dst v h1] at h
    generalize (execOp a.eval oj).run P w = r at *
    cases r with
    | ok n w' =>
      cases n <;> simp only [Oper.upon] at h ⊢
      case value u => exact ⟨h.1, hF _ h.1 hS, keep a hy u, by rw [← Act.put_comm a v u h2]; exact h.2⟩
      case skip => exact ⟨h.1, hF _ h.1 hS, keep a hy _, by rw [← Act.put_comm a v undef h2]; exact h.2⟩
      case defer d =>
        refine ⟨h.1, hF _ h.1 hS, keep _ (keepD d) _, ?_⟩
        rw [← Act.put_comm _ v undef h2, ← Act.put_defers]
        exact h.2
      case enter f args =>
        refine Calls.mono h fun e w'' he => ?_
        cases e with
        | returned u => exact ⟨he.1, hF _ he.1 hS, keep a hy u, by rw [← Act.put_comm a v u h2]; exact he.2⟩
        | panicked c => exact hQ _ _ _ he
        | outgrown => exact he
      case row row args => exact Rows.mono h fun u w'' he => ⟨he.1, hF _ he.1 hS, keep a hy u, by rw [← Act.put_comm a v u h2]; exact he.2⟩
    | halt x w' =>
      cases x <;> simp only [Oper.upon] at h ⊢
      case panic u => exact hQ _ _ _ h
  · rename_i hw
    simp only [hw] at h
    exact ⟨h.1, hF _ h.1 hS, keep a hy _, by rw [← Act.put_comm a v undef h2]; exact h.2⟩

/-- **What leaves memory alone may be taken first.** -/
theorem wpF_first {S : World → Prop} {F : Nat → World → World → Prop} {i : Nat} {oi : Oper} {v : Value} (hi : ops[i]? = some oi) (hsel : ∀ (j : Nat) (o : Oper) cs b, ops[j]? = some o → o.op ≠ .select cs b)
    (hQ : ∀ c a w, Q (.panic c) (a.put oi.dst v) w → Q (.panic c) a w) (hF : ∀ j w w', ¬ Anc ops i j → j ≠ i → F j w w' → S w → S w') (hFr : ∀ j w, F j w w) :
    ∀ (fuel : Nat) (listed : Array Bool) (a : Act) (w : World), Down ops listed →
      (∀ j oj, ops[j]? = some oj → j ≠ i → listed.getD j true = false → (∀ e ∈ oj.after, Region.binds .any e = true → e.on ≠ i) → oi.apart ops oj = true) →
      i ∈ Region.ready .any ops listed → S w → YieldsAt P ops S oi v a →
      wpF P ops Q F fuel (listed.setIfInBounds i true) (a.put oi.dst v) w → wpF P ops Q F (fuel + 1) listed a w := by
  intro fuel
  induction fuel with
  | zero =>
    intro listed a w hD _ hr hS hy H
    refine ⟨fun h => (by rw [h] at hr; cases hr), fun j hj => ?_⟩
    by_cases hji : j = i
    · subst hji; exact hy.wpOp hi hS ⟨hFr _ _, H⟩
    · have := ready_mono hj hji
      rw [H.1] at this
      cases this
  | succ fuel ih =>
    intro listed a w hD hfree hr hS hy H
    refine ⟨fun h => (by rw [h] at hr; cases hr), fun j hj => ?_⟩
    by_cases hji : j = i
    · subst hji; exact hy.wpOp hi hS ⟨hFr _ _, H⟩
    · have h1 := H.2 j (ready_mono hj hji)
      obtain ⟨hjun, oj, hoj, hall⟩ := mem_ready.1 hj
      have hiun : ¬ listed.getD i false = true := by
        have h0 := (mem_ready.1 hr).1
        rcases Nat.lt_or_ge i listed.size with h' | h'
        · simp [h'] at h0; simp [h', h0]
        · simp [Array.getElem?_eq_none h']
      have hnot : ∀ e ∈ oj.after, Region.binds .any e = true → e.on ≠ i := fun e he hb heq => hiun (heq ▸ hall e he hb)
      have hnanc : ¬ Anc ops i j := fun ha => hiun (hD.anc ha hj)
      have h2 := wpOp_swap hoj (hfree j oj hoj hji hjun hnot) (fun cs b => hsel i oi cs b hi) (fun cs b => hsel j oj cs b hoj) hQ (fun w' => hF j w w' hnanc hji) hS hy h1
      have hfree' : ∀ k ok, ops[k]? = some ok → k ≠ i → (listed.setIfInBounds j true).getD k true = false →
          (∀ e ∈ ok.after, Region.binds .any e = true → e.on ≠ i) → oi.apart ops ok = true := fun k ok hk hki hun hno => by
        refine hfree k ok hk hki ?_ hno
        by_cases hjk : j = k
        · subst hjk; exact hjun
        · rw [getD_set_ne true hjk] at hun; exact hun
      refine wpOp_mono (fun a' w' h3 => ⟨h3.1, ih (listed.setIfInBounds j true) a' w' (hD.add hj) hfree' (ready_mono hr (Ne.symm hji)) h3.2.1 h3.2.2.1 ?_⟩) h2
      rw [Array.setIfInBounds_comm _ _ hji]
      exact h3.2.2.2

/-- What was read and must stay. -/
abbrev Pends := List (Nat × (World → Prop))
def PendKeep (ops : Array Oper) (pend : Pends) (j : Nat) (w w' : World) : Prop := ∀ p ∈ pend, ¬ Anc ops p.1 j → p.2 w → p.2 w'

/-- By a plan. -/
def planWp (P : Program) (ops : Array Oper) (Q : Exit → Act → World → Prop) : Plan → Pends → Act → World → Prop
  | .stop, _, a, w => Q .normal a w
  | .sil i r, pend, a, w => ∃ oi v S, ops[i]? = some oi ∧ YieldsAt P ops S oi v a ∧ S w ∧ planWp P ops Q r ((i, S) :: pend) (a.put oi.dst v) w
  | .eff i r, pend, a, w => wpOp P ops Q i (fun a' w' => PendKeep ops pend i w w' ∧ planWp P ops Q r pend a' w') a w
  | .alt p q, pend, a, w => planWp P ops Q p pend a w ∧ planWp P ops Q q pend a w

def Free (ops : Array Oper) (listed : Array Bool) (i : Nat) : Prop := ∀ oi j oj, ops[i]? = some oi → ops[j]? = some oj → j ≠ i → listed.getD j true = false → (∀ e ∈ oj.after, Region.binds .any e = true → e.on ≠ i) → oi.apart ops oj = true
/-- What may come first. -/
def Plan.firsts : Plan → List Nat
  | .eff i _ => [i]
  | .alt p q => p.firsts ++ q.firsts
  | _ => []
mutual
def PlanOk (ops : Array Oper) : Plan → Nat → Array Bool → Prop
  | .stop, _, l => Region.ready .any ops l = []
  | .sil i r, f, l => f ≠ 0 ∧ i ∈ Region.ready .any ops l ∧ Free ops l i ∧ PlanOk ops r (f - 1) (l.setIfInBounds i true)
  | .eff i r, f, l => f ≠ 0 ∧ (∀ x ∈ Region.ready .any ops l, x = i) ∧ i ∈ Region.ready .any ops l ∧ PlanOk ops r (f - 1) (l.setIfInBounds i true)
  | .alt p q, f, l => f ≠ 0 ∧ (∀ x ∈ Region.ready .any ops l, x ∈ p.firsts ++ q.firsts) ∧ (p.firsts ≠ []) ∧ PlanAlt ops p f l ∧ PlanAlt ops q f l
def PlanAlt (ops : Array Oper) : Plan → Nat → Array Bool → Prop
  | .eff i r, f, l => i ∈ Region.ready .any ops l ∧ PlanOk ops r (f - 1) (l.setIfInBounds i true)
  | .alt p q, f, l => PlanAlt ops p f l ∧ PlanAlt ops q f l
  | .stop, _, _ => False
  | .sil _ _, _, _ => False
end
theorem PlanAlt.ready {ops : Array Oper} : ∀ {p : Plan} {f : Nat} {l : Array Bool}, PlanAlt ops p f l → ∀ x ∈ p.firsts, x ∈ Region.ready .any ops l
  | .eff i r, f, l, h, x, hx => by
    simp only [Plan.firsts, List.mem_singleton] at hx
    subst hx
    unfold PlanAlt at h
    exact h.1
  | .alt p q, f, l, h, x, hx => by
    unfold PlanAlt at h
    rcases List.mem_append.1 hx with hx | hx
    · exact PlanAlt.ready h.1 x hx
    · exact PlanAlt.ready h.2 x hx
  | .stop, _, _, h, _, _ => by unfold PlanAlt at h; exact h.elim
  | .sil _ _, _, _, h, _, _ => by unfold PlanAlt at h; exact h.elim

mutual
theorem wpF_of_plan (hsel : ∀ (j : Nat) (o : Oper) cs b, ops[j]? = some o → o.op ≠ .select cs b) (hQ : ∀ c a w, ¬ Q (.panic c) a w) : ∀ (p : Plan) (fuel : Nat) (listed : Array Bool) (pend : Pends) (a : Act) (w : World),
    PlanOk ops p fuel listed → Down ops listed → planWp P ops Q p pend a w → wpF P ops Q (PendKeep ops pend) fuel listed a w
  | .stop, 0, l, pend, a, w, hp, hD, h => by unfold PlanOk at hp; exact ⟨hp, h⟩
  | .stop, f + 1, l, pend, a, w, hp, hD, h => by unfold PlanOk at hp; exact ⟨fun _ => h, fun i hi => by rw [hp] at hi; cases hi⟩
  | .sil i r, 0, l, pend, a, w, hp, hD, h => by unfold PlanOk at hp; exact absurd rfl hp.1
  | .sil i r, f + 1, l, pend, a, w, hp, hD, h => by
    unfold PlanOk at hp
    obtain ⟨_, hr, hfr, hp⟩ := hp
    obtain ⟨oi, v, S, hi, hy, hS, h⟩ := h
    have ih := wpF_of_plan hsel hQ r f _ _ _ _ hp (hD.add hr) h
    refine wpF_mono (fun j w w' hk p hpm => hk p (List.mem_cons_of_mem _ hpm)) _ _ _ _ (wpF_first hi hsel (fun c a w h => (hQ _ _ _ h).elim) (fun j w w' hn _ hk => hk (i, S) (List.mem_cons_self ..) hn)
      (fun j w p _ _ h => h) f l a w hD (fun j oj hoj hne hun hno => hfr oi j oj hi hoj hne hun hno) hr hS hy ih)
  | .eff i r, 0, l, pend, a, w, hp, hD, h => by unfold PlanOk at hp; exact absurd rfl hp.1
  | .eff i r, f + 1, l, pend, a, w, hp, hD, h => by
    unfold PlanOk at hp
    obtain ⟨_, hall, hr, hp⟩ := hp
    refine ⟨fun h0 => by (rw [h0] at hr; cases hr), fun x hx => ?_⟩
    obtain rfl := hall x hx
    exact wpOp_mono (fun a' w' hk => ⟨hk.1, wpF_of_plan hsel hQ r f _ _ _ _ hp (hD.add hr) hk.2⟩) h
  | .alt p q, 0, l, pend, a, w, hp, hD, h => by unfold PlanOk at hp; exact absurd rfl hp.1
  | .alt p q, f + 1, l, pend, a, w, hp, hD, h => by
    unfold PlanOk at hp
    obtain ⟨_, hall, hne, hp, hq⟩ := hp
    obtain ⟨y, hy⟩ := List.exists_mem_of_ne_nil _ hne
    refine ⟨fun h0 => by (have := hp.ready y hy; rw [h0] at this; cases this), fun x hx => ?_⟩
    rcases List.mem_append.1 (hall x hx) with hx | hx
    · exact wpF_of_alt hsel hQ p f l pend a w hp hD h.1 x hx
    · exact wpF_of_alt hsel hQ q f l pend a w hq hD h.2 x hx
theorem wpF_of_alt (hsel : ∀ (j : Nat) (o : Oper) cs b, ops[j]? = some o → o.op ≠ .select cs b) (hQ : ∀ c a w, ¬ Q (.panic c) a w) : ∀ (p : Plan) (f : Nat) (l : Array Bool) (pend : Pends) (a : Act) (w : World),
    PlanAlt ops p (f + 1) l → Down ops l → planWp P ops Q p pend a w → ∀ x ∈ p.firsts, wpOp P ops Q x (fun a' w' => PendKeep ops pend x w w' ∧ wpF P ops Q (PendKeep ops pend) f (l.setIfInBounds x true) a' w') a w
  | .stop, f, l, pend, a, w, hp, hD, h, x, hx => by cases hx
  | .sil i r, f, l, pend, a, w, hp, hD, h, x, hx => by cases hx
  | .eff i r, f, l, pend, a, w, hp, hD, h, x, hx => by
    unfold PlanAlt at hp
    simp only [Plan.firsts, List.mem_singleton] at hx
    subst hx
    exact wpOp_mono (fun a' w' hk => ⟨hk.1, wpF_of_plan hsel hQ r f _ _ _ _ hp.2 (hD.add hp.1) hk.2⟩) h
  | .alt p q, f, l, pend, a, w, hp, hD, h, x, hx => by
    unfold PlanAlt at hp
    rcases List.mem_append.1 hx with hx | hx
    · exact wpF_of_alt hsel hQ p f l pend a w hp.1 hD h.1 x hx
    · exact wpF_of_alt hsel hQ q f l pend a w hp.2 hD h.2 x hx
end

/-- A region that draws its order, by a plan. -/
theorem wp_region_plan {id : Nat} {a : Act} {w : World} {p : Plan} (hm : P.follows .mixedOrders = true) (hsel : Region.noSelect ops = true) (hQ : ∀ c a w, ¬ Q (.panic c) a w)
    (hp : PlanOk ops p ops.size (Array.replicate ops.size false)) (h : planWp P ops Q p [] a { w with drawn := w.drawn + 1 }) : (Code.region id ops true).wp P Q a w :=
  wp_region_any hm (wpF_any _ _ _ _ (wpF_of_plan (Region.noSelect_spec hsel) hQ p _ _ [] a _ hp Down.none h))
end
end Go.Ab
