/- What calls mean. -/
import Derived.Test.YtmkkhaonakdgpaaDoorAbRen
namespace Go.Ab
open Go

/-- A call, of a function or of what is given from outside: it hands back a value. -/
def CallsV (P : Program) (f : FuncId) (xs : Array Value) (w : World) (R : Value → World → Prop) : Prop :=
  match (callFunc f xs).run P w with
  | .ok (.value v) w' => R v w'
  | .ok (.enter g ys) w' => Calls P g ys w' fun
      | .returned v, w'' => R v w''
      | _, _ => False
  | _ => False
theorem CallsV.mono {P : Program} {f : FuncId} {xs : Array Value} {w : World} {R R' : Value → World → Prop} (h : CallsV P f xs w R) (hR : ∀ v w', R v w' → R' v w') : CallsV P f xs w R' := by
  unfold CallsV at *
  split
  · rename_i hr; rw [hr] at h; exact hR _ _ h
  · rename_i hr
    rw [hr] at h
    exact Calls.mono h fun e w' he => by cases e <;> first | exact hR _ _ he | exact he
  · rename_i h1 h2
    split at h
    · rename_i hr; exact absurd hr (h1 _ _)
    · rename_i hr; exact absurd hr (h2 _ _ _)
    · exact h

def outH : Nat → List Blk → Heap
  | _, [] => []
  | i, b :: r => (.out i, b) :: outH (i + 1) r
section
variable {Φg Φ : Phi} {m : LMap} {w : World} {H : Heap}
theorem argsT_get : ∀ (args : List AV) (i t : Nat), tget (argsT i args) t = if i ≤ t then args[t - i]? else none
  | [], i, t => by simp [argsT, tget]
  | v :: r, i, t => by
    simp only [argsT, tget]
    cases hb : Nat.beq i t with
    | true =>
      rw [Nat.beq_eq] at hb
      subst hb
      simp
    | false =>
      have hne : i ≠ t := fun e => by rw [e] at hb; simp at hb
      simp only [cond_false]
      rw [argsT_get r (i + 1) t]
      by_cases h : i ≤ t
      · rw [if_pos (by omega), if_pos h, show t - i = (t - (i + 1)) + 1 by omega, List.getElem?_cons_succ]
      · rw [if_neg (by omega), if_neg h]
theorem incH_get : ∀ (inc : List Blk) (i : Nat) (s : Site), hget (incH i inc) s = match s with | .inc j => if i ≤ j then inc[j - i]? else none | _ => none
  | [], i, s => by cases s <;> simp [incH, hget]
  | b :: r, i, s => by
    simp only [incH]
    by_cases e : Site.inc i = s
    · subst e; rw [hget_cons_same]; simp
    · rw [hget_cons_ne _ _ e, incH_get r (i + 1) s]
      cases s with
      | inc j =>
        have hne : i ≠ j := fun h => e (by rw [h])
        dsimp only
        by_cases h : i ≤ j
        · rw [if_pos (by omega), if_pos h, show j - i = (j - (i + 1)) + 1 by omega, List.getElem?_cons_succ]
        · rw [if_neg (by omega), if_neg h]
      | _ => rfl
theorem outH_get : ∀ (out : List Blk) (i : Nat) (s : Site), hget (outH i out) s = match s with | .out j => if i ≤ j then out[j - i]? else none | _ => none
  | [], i, s => by cases s <;> simp [outH, hget]
  | b :: r, i, s => by
    simp only [outH]
    by_cases e : Site.out i = s
    · subst e; rw [hget_cons_same]; simp
    · rw [hget_cons_ne _ _ e, outH_get r (i + 1) s]
      cases s with
      | out j =>
        have hne : i ≠ j := fun h => e (by rw [h])
        dsimp only
        by_cases h : i ≤ j
        · rw [if_pos (by omega), if_pos h, show j - i = (j - (i + 1)) + 1 by omega, List.getElem?_cons_succ]
        · rw [if_neg (by omega), if_neg h]
      | _ => rfl
theorem hget_append : ∀ (H H' : Heap) (s : Site), hget (H ++ H') s = match hget H s with | some b => some b | none => hget H' s
  | [], _, _ => rfl
  | (a, b) :: r, H', s => by
    simp only [List.cons_append, hget]
    cases Site.eq a s with
    | true => rfl
    | false => exact hget_append r H' s

theorem Inv.congr {H' : Heap} (hI : Inv Φ m w H) (h : ∀ s, hget H' s = hget H s) : Inv Φ m w H' :=
  ⟨hI.phi, fun s B hB => hI.blk s B (h s ▸ hB), fun s hs => hI.map s (h s ▸ hs), fun s s' B B' b e z e' z' h1 h2 => hI.inj s s' B B' b e z e' z' (h s ▸ h1) (h s' ▸ h2), hI.lt⟩

end

/-- A call is as the runner says: handed these, with these blocks coming in, it comes to this. -/
def SoundCall (P : Program) (Φg : Phi) (f : FuncId) (args : List AV) (inc : List Blk) (r : Res) : Prop :=
  ∀ (Φ : Phi) (m : LMap) (w : World) (xs : Array Value), (∀ b o x, Φg b o = some x → Φ b o = some x) → Rs Φ m args xs.toList → Inv Φ m w (incH 0 inc) →
    CallsV P f xs w fun x w' => ∃ Φ' m', R Φ' m' r.v x ∧ Inv Φ' m' w' (incH 0 r.back ++ outH 0 r.out) ∧ Glob Φg Φ m w Φ' m' w'

/-- A method's function; the receiver is handed on as it is, or (fld) its only cell is. -/
def IsMeth (P : Program) (t : TypeId) (name : String) (f : FuncId) (fld : Bool) : Prop :=
  match fld with
  | false => ∀ (w : World) (v : Value), (method (P.types.size + Made.depth) t v name).run P w = .ok (f, v) w
  | true => ∀ (w : World) (v : Value), (method (P.types.size + Made.depth) t (.agg #[v]) name).run P w = .ok (f, v) w
/-- Does a type have the methods that an interface asks for? -/
def Asserts (P : Program) (t u : TypeId) (b : Bool) : Prop :=
  ∃ ms i, P.underlying u = some (.interface ms) ∧ P.info? t = some i ∧ (b = true ↔ Instr.missingMethod ms i.methods = none)

structure CtxOk (P : Program) (Φg : Phi) (X : Ctx) : Prop where
  tab : TabOK P X.cfg.tab
  call : ∀ f args inc r, X.call f args inc r → SoundCall P Φg f args inc r
  meth : ∀ t name f b, X.meth t name f b → IsMeth P t name f b
  ta : ∀ t u b, X.ta t u b → Asserts P t u b
  mixed : P.follows .mixedOrders = true
  glob : ∀ g v, X.cfg.glob g = some v → R Φg m0 (.cptr v) (.pointer (some ⟨g, 0, none⟩))
end Go.Ab
