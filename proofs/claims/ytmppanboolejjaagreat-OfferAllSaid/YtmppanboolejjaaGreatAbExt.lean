/- Functions that are given from outside. -/
import Derived.Test.YtmppanboolejjaaGreatAbHand
import Derived.Lib.Bytealg
import Derived.Laws.Externs
import Derived.Stop.Asserts
namespace Go.Ab
open Go Go.Proofs
section
variable {P : Program} {Φg : Phi}
def HandleTab (P : Program) (e : Array Value → Sem Value) (hg : Nat) : List (Nat × Bool) → Prop
  | [] => True
  | (t,b) :: r => (∀ w : World,(e #[.agg #[.pointer (some ⟨hg,t,none⟩)]]).run P w = .ok (.bool b) w) ∧ HandleTab P e hg r
theorem HandleTab.get {e : Array Value → Sem Value} {hg : Nat} : ∀ {l : List (Nat × Bool)},HandleTab P e hg l → ∀ {t b},look1 l t = some b → ∀ w : World,(e #[.agg #[.pointer (some ⟨hg,t,none⟩)]]).run P w = .ok (.bool b) w
  | [],_,t,b,h => by cases h
  | (u,c) :: r,hl,t,b,h => by
    unfold look1 at h
    cases he : Nat.beq u t with
    | true => rw [he] at h; cases h; rw [Nat.beq_eq] at he; subst he; exact hl.1
    | false => rw [he] at h; exact hl.2.get h
def assertsB (P : Program) (t u : TypeId) (b : Bool) : Bool :=
  match P.underlying u,P.info? t with
  | some (.interface ms),some i => bif b then (lacking ms i.methods).isEmpty else !(lacking ms i.methods).isEmpty
  | _,_ => false
theorem assertsB_ok {t u : TypeId} {b : Bool} (h : assertsB P t u b = true) : Asserts P t u b := by
  unfold assertsB at h
  split at h
  · rename_i ms i hu hi
    refine ⟨ms,i,hu,hi, ?_⟩
    cases b with
    | true =>
      have : lacking ms i.methods = [] := by simpa using h
      exact ⟨fun _ => missingMethod_none this,fun _ => rfl⟩
    | false =>
      have : lacking ms i.methods ≠ [] := by
        intro hn; rw [hn] at h; cases h
      obtain ⟨m,hm⟩ := missingMethod_some this
      exact ⟨fun hb => (by cases hb),fun hn => by rw [hm] at hn; cases hn⟩
  · cases h
def look2o {β : Type} : List (Nat × Nat × β) → Nat → Nat → Option β
  | [],_,_ => none
  | (a,b,x) :: r,f,i => bif Nat.beq a f && Nat.beq b i then some x else look2o r f i
def taB (P : Program) : List (Nat × Nat × Bool) → Bool
  | [] => true
  | (t,u,b) :: r => assertsB P t u b && taB P r
theorem taB_ok : ∀ {l : List (Nat × Nat × Bool)},taB P l = true → ∀ {t u b},look2o l t u = some b → Asserts P t u b
  | [],_,t,u,b,h => by cases h
  | (t',u',b') :: r,hl,t,u,b,h => by
    simp only [taB,Bool.and_eq_true] at hl
    unfold look2o at h
    cases he : (Nat.beq t' t && Nat.beq u' u) with
    | true =>
      rw [he] at h; cases h
      simp only [Bool.and_eq_true,Nat.beq_eq] at he
      obtain ⟨rfl,rfl⟩ := he
      exact assertsB_ok hl.1
    | false => rw [he] at h; exact taB_ok hl.2 h
def MethTab (P : Program) : List (Nat × String × Nat × Bool) → Prop
  | [] => True
  | (t,n,f,b) :: r => IsMeth P t n f b ∧ MethTab P r
def lookM : List (Nat × String × Nat × Bool) → Nat → String → Option (Nat × Bool)
  | [],_,_ => none
  | (a,n,f,b) :: r,t,m => bif Nat.beq a t && decide (n = m) then some (f,b) else lookM r t m
theorem MethTab.get : ∀ {l : List (Nat × String × Nat × Bool)},MethTab P l → ∀ {t n f b},lookM l t n = some (f,b) → IsMeth P t n f b
  | [],_,t,n,f,b,h => by cases h
  | (a,n',f',b') :: r,hl,t,n,f,b,h => by
    unfold lookM at h
    cases he : (Nat.beq a t && decide (n' = n)) with
    | true =>
      rw [he] at h; cases h
      simp only [Bool.and_eq_true,Nat.beq_eq,decide_eq_true_eq] at he
      obtain ⟨rfl,rfl⟩ := he
      exact hl.1
    | false => rw [he] at h; exact hl.2.get h
end
end Go.Ab
