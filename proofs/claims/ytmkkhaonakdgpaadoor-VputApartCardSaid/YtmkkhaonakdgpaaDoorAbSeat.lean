/- What all seats share: look-ups, a function's law from the runner; closed laws. -/
import Derived.Test.YtmkkhaonakdgpaaDoorAbEval
namespace Go.Ab
open Go
def look2 {β : Type} (d : β) : List (Nat × Nat × β) → Nat → Nat → β
  | [], _, _ => d
  | (a, b, x) :: r, f, i => bif Nat.beq a f && Nat.beq b i then x else look2 d r f i
def bodyOf (fn : Func) : Code := match fn.body with | some c => c | none => .skip
def lookO {β : Type} : List (Nat × Nat × β) → Nat → Nat → Option β
  | [], _, _ => none
  | (a, b, x) :: r, f, i => bif Nat.beq a f && Nat.beq b i then some x else lookO r f i
def look1 {β : Type} : List (Nat × β) → Nat → Option β
  | [], _ => none
  | (a, x) :: r, f => bif Nat.beq a f then some x else look1 r f
def fnB (cfg : Cfg) (dg : List (Nat × Nat × List Dig)) (f : Nat) (fn : Func) : Bool := fn.body.isSome && !(fn.name == "runtime.NumGoroutine") && codeL cfg (lookO dg f) f fn.ntmps (bodyOf fn)
/-- A function's law, from the runner. -/
theorem spec_of {P : Program} {Φg : Phi} {X : Ctx} (hX : CtxOk P Φg X) {f : FuncId} {fn : Func} {dg : List (Nat × Nat × List Dig)} (hf : P.funcs[f]? = some fn) (hb : fnB X.cfg dg f fn = true) {args : List AV} {inc : List Blk} {r : Res} (h : Sat X f (startD X.cfg f fn args inc) (· = r)) :
    SoundCall P Φg f args inc r := by
  obtain ⟨n, h⟩ := h
  simp only [fnB, Bool.and_eq_true, Bool.not_eq_true'] at hb
  obtain ⟨⟨h1, h2⟩, h3⟩ := hb
  obtain ⟨c, hc⟩ := Option.isSome_iff_exists.1 h1
  have hbody : bodyOf fn = c := by unfold bodyOf; rw [hc]
  exact start_ok hX hf hc h2 (codeL_ok (hbody ▸ h3)) h

/-- The functions that the runner may enter. -/
def FnsOk (P : Program) (cfg : Cfg) (dg : List (Nat × Nat × List Dig)) : List (Nat × Func) → Prop
  | [] => True
  | (f, fn) :: r => P.funcs[f]? = some fn ∧ fnB cfg dg f fn = true ∧ FnsOk P cfg dg r
theorem FnsOk.get {P : Program} {cfg : Cfg} {dg : List (Nat × Nat × List Dig)} : ∀ {l : List (Nat × Func)}, FnsOk P cfg dg l → ∀ {f fn}, look1 l f = some fn → P.funcs[f]? = some fn ∧ fnB cfg dg f fn = true
  | [], _, f, fn, h => by cases h
  | (g, gn) :: r, hl, f, fn, h => by
    unfold look1 at h
    cases he : Nat.beq g f with
    | true => rw [he] at h; cases h; rw [Nat.beq_eq] at he; subst he; exact ⟨hl.1, hl.2.1⟩
    | false => rw [he] at h; exact hl.2.2.get h
theorem envOk {P : Program} {Φg : Phi} {X : Ctx} {E : Env} {dg : List (Nat × Nat × List Dig)} {l : List (Nat × Func)} (hX : CtxOk P Φg X) (hc : X.cfg = E.cfg) (hcall : X.call = SoundCall P Φg) (hl : E.fn = look1 l) (hfn : FnsOk P E.cfg dg l)
    (hm : ∀ t m f b, E.meth t m = some (f, b) → X.meth t m f b) (ht : ∀ t u b, E.ta t u = some b → X.ta t u b) (hk : ∀ f args inc r, E.known f args inc = some r → SoundCall P Φg f args inc r) : EnvOk P Φg X E :=
  ⟨hX, hc, hcall, fun f fn h => by
    rw [hl] at h
    obtain ⟨h1, h2⟩ := hfn.get h
    simp only [fnB, Bool.and_eq_true, Bool.not_eq_true'] at h2
    exact ⟨lookO dg f, h1, h2.2, h2.1.2⟩, hm, ht, hk⟩
/-- Does a closed law say true? -/
def evT (E : Env) (f : FuncId) : Bool :=
  match ev E 1000 f [] [] with
  | some ⟨.bool true, [], []⟩ => true
  | _ => false
theorem evT_ok {P : Program} {Φg : Phi} {X : Ctx} {E : Env} (h : EnvOk P Φg X E) {f : FuncId} (ht : evT E f = true) : SoundCall P Φg f [] [] ⟨.bool true, [], []⟩ := by
  unfold evT at ht
  split at ht
  · rename_i he; exact ev_ok h _ _ _ _ _ he
  · cases ht
theorem look1_one {β : Type} {Q : Nat → β → Prop} {a g : Nat} {x v : β} (hq : Q a x) (h : look1 [(a, x)] g = some v) : Q g v := by
  unfold look1 at h
  cases hb : Nat.beq a g with
  | false => rw [hb] at h; cases h
  | true =>
    rw [hb] at h
    rw [Nat.beq_eq] at hb
    subst hb
    cases h
    exact hq
/-! ### One package variable, of one cell -/
def phi1 (g : Nat) (x : Value) : Phi := fun b o => bif Nat.beq b g && Nat.beq o 0 then some x else none
theorem phi1_at {g : Nat} {x y : Value} {b o : Nat} (h : phi1 g x b o = some y) : b = g ∧ o = 0 ∧ x = y := by
  unfold phi1 at h
  cases hc : (Nat.beq b g && Nat.beq o 0) with
  | false => rw [hc] at h; cases h
  | true =>
    rw [hc] at h
    simp only [Bool.and_eq_true, Nat.beq_eq] at hc
    exact ⟨hc.1, hc.2, by simpa using h⟩
theorem phi1_self (g : Nat) (x : Value) : phi1 g x g 0 = some x := by simp [phi1, Nat.beq_refl]
theorem glob1 {g : Nat} {v : AV} {x : Value} (hv : v.cells = [v]) (hr : ∀ Φ : Phi, R Φ m0 v x) : R (phi1 g x) m0 (.cptr v) (.pointer (some ⟨g, 0, none⟩)) :=
  .cptr (fun _ => x) (fun j c hc => by
    rw [hv] at hc
    cases j with
    | zero => simpa using phi1_self g x
    | succ j => simp at hc) (fun j c hc => by
    rw [hv] at hc
    cases j with
    | zero => simp at hc; subst hc; exact hr _
    | succ j => simp at hc)
/-- The handle of a type, in an interface. -/
theorem glob_hand {g rt hg t : Nat} : R (phi1 g (.iface rt (.agg #[.pointer (some ⟨hg, t, none⟩)]))) m0 (.cptr (.iface rt (.agg [.raw (.pointer (some ⟨hg, t, none⟩))]))) (.pointer (some ⟨g, 0, none⟩)) :=
  glob1 rfl fun _ => .iface (.aggs (.cons (.raw rfl) .nil))
end Go.Ab
