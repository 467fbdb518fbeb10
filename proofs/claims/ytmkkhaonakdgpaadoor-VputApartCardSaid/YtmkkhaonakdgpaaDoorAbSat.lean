import Derived.Test.YtmkkhaonakdgpaaDoorAbDef
namespace Go.Ab
open Go

/-- What the runner takes from outside: calls, methods, type tests. -/
structure Ctx where
  cfg : Cfg
  call : FuncId → List AV → List Blk → Res → Prop
  meth : TypeId → String → FuncId → Bool → Prop
  ta : TypeId → TypeId → Bool → Prop

section
variable {α : Type} (X : Ctx) (fid : FuncId)

inductive SatN : Nat → DT α → (α → Prop) → Prop
  | ret {n : Nat} {a : α} {Q : α → Prop} : Q a → SatN n (.ret a) Q
  | nodeT {n : Nat} {c : Bool} {a b : DT α} {Q : α → Prop} : c = true → SatN n a Q → SatN n (.node c a b) Q
  | nodeF {n : Nat} {c : Bool} {a b : DT α} {Q : α → Prop} : c = false → SatN n b Q → SatN n (.node c a b) Q
  | amb {n : Nat} {a b : DT α} {Q : α → Prop} : SatN n a Q → SatN n b Q → SatN n (.amb a b) Q
  | elem {n : Nat} {xs : List AV} {i : Nat} {v : AV} {k : AV → DT α} {Q : α → Prop} : xs[i]? = some v → SatN n (k v) Q → SatN n (.elem xs i k) Q
  | byte {n : Nat} {xs : List UInt8} {i : Nat} {v : UInt8} {k : UInt8 → DT α} {Q : α → Prop} : xs[i]? = some v → SatN n (k v) Q → SatN n (.byte xs i k) Q
  | bytes {n : Nat} {xs : List AV} {bs : List UInt8} {k : List UInt8 → DT α} {Q : α → Prop} : xs = bs.map (fun c => AV.int .u8 c.toNat) → SatN n (k bs) Q → SatN n (.bytes xs k) Q
  | fin {n : Nat} {i : Int} {m j : Nat} {k : Nat → DT α} {Q : α → Prop} : i = j → j < m → SatN n (k j) Q → SatN n (.fin i m k) Q
  | esz {n : Nat} {xs : List AV} {e : Nat} {k : DT α} {Q : α → Prop} : (∀ v ∈ xs, v.cells.length = e) → SatN n k Q → SatN n (.esz xs e k) Q
  | call {n : Nat} {f : FuncId} {args : List AV} {inc : List Blk} {r : Res} {k : Res → DT α} {Q : α → Prop} : X.call f args inc r → SatN n (k r) Q → SatN n (.call f args inc k) Q
  | meth {n : Nat} {t : TypeId} {m : String} {f : FuncId} {b : Bool} {k : FuncId → Bool → DT α} {Q : α → Prop} : X.meth t m f b → SatN n (k f b) Q → SatN n (.meth t m k) Q
  | ta {n : Nat} {t u : TypeId} {b : Bool} {k : Bool → DT α} {Q : α → Prop} : X.ta t u b → SatN n (k b) Q → SatN n (.ta t u k) Q
  | loop {n : Nat} {body : Code} {live : List (Nat × Nat)} {s : St} {k : Ex → St → DT α} {Q : α → Prop} :
      SatN n (execD X.cfg fid body s (againD body live k)) Q → SatN (n + 1) (.loop body live s k) Q


theorem SatN.mono {n m : Nat} {d : DT α} {Q : α → Prop} (h : SatN X fid n d Q) (hm : n ≤ m) : SatN X fid m d Q := by
  induction h generalizing m with
  | ret h => exact .ret h
  | nodeT hc _ ih => exact .nodeT hc (ih hm)
  | nodeF hc _ ih => exact .nodeF hc (ih hm)
  | amb _ _ ia ib => exact .amb (ia hm) (ib hm)
  | elem h _ ih => exact .elem h (ih hm)
  | byte h _ ih => exact .byte h (ih hm)
  | bytes h _ ih => exact .bytes h (ih hm)
  | fin h h' _ ih => exact .fin h h' (ih hm)
  | esz h _ ih => exact .esz h (ih hm)
  | call h _ ih => exact .call h (ih hm)
  | meth h _ ih => exact .meth h (ih hm)
  | ta h _ ih => exact .ta h (ih hm)
  | loop _ ih =>
    cases m with
    | zero => cases hm
    | succ m => exact .loop (ih (Nat.le_of_succ_le_succ hm))

def Sat (d : DT α) (Q : α → Prop) : Prop := ∃ n, SatN X fid n d Q

variable {X fid}
variable {Q : α → Prop}
namespace Sat
theorem ret {a : α} (h : Q a) : Sat X fid (.ret a) Q := ⟨0, .ret h⟩
theorem nodeT {c : Bool} {a b : DT α} (hc : c = true) : Sat X fid a Q → Sat X fid (.node c a b) Q := fun ⟨n, h⟩ => ⟨n, .nodeT hc h⟩
theorem nodeF {c : Bool} {a b : DT α} (hc : c = false) : Sat X fid b Q → Sat X fid (.node c a b) Q := fun ⟨n, h⟩ => ⟨n, .nodeF hc h⟩
theorem split {c : Bool} {a b : DT α} (ht : c = true → Sat X fid a Q) (hf : c = false → Sat X fid b Q) : Sat X fid (.node c a b) Q := by
  cases c
  · exact nodeF rfl (hf rfl)
  · exact nodeT rfl (ht rfl)
/-- A test of a proposition. -/
theorem ifT {p : Prop} [Decidable p] {a b : DT α} (hp : p) (h : Sat X fid a Q) : Sat X fid (.node (decide p) a b) Q := nodeT (decide_eq_true hp) h
theorem ifF {p : Prop} [Decidable p] {a b : DT α} (hp : ¬ p) (h : Sat X fid b Q) : Sat X fid (.node (decide p) a b) Q := nodeF (decide_eq_false hp) h
theorem notT {p : Prop} [Decidable p] {a b : DT α} (hp : ¬ p) (h : Sat X fid a Q) : Sat X fid (.node (!decide p) a b) Q := nodeT (by simp [hp]) h
theorem notF {p : Prop} [Decidable p] {a b : DT α} (hp : p) (h : Sat X fid b Q) : Sat X fid (.node (!decide p) a b) Q := nodeF (by simp [hp]) h
theorem amb {a b : DT α} : Sat X fid a Q → Sat X fid b Q → Sat X fid (.amb a b) Q :=
  fun ⟨n, h⟩ ⟨m, h'⟩ => ⟨max n m, .amb (h.mono _ _ (Nat.le_max_left n m)) (h'.mono _ _ (Nat.le_max_right n m))⟩
theorem elem {xs : List AV} {i : Nat} {k : AV → DT α} (v : AV) (h : xs[i]? = some v) : Sat X fid (k v) Q → Sat X fid (.elem xs i k) Q := fun ⟨n, h'⟩ => ⟨n, .elem h h'⟩
theorem byte {xs : List UInt8} {i : Nat} {k : UInt8 → DT α} (v : UInt8) (h : xs[i]? = some v) : Sat X fid (k v) Q → Sat X fid (.byte xs i k) Q := fun ⟨n, h'⟩ => ⟨n, .byte h h'⟩
theorem bytes {xs : List AV} {k : List UInt8 → DT α} (bs : List UInt8) (h : xs = bs.map (fun c => AV.int .u8 c.toNat)) : Sat X fid (k bs) Q → Sat X fid (.bytes xs k) Q := fun ⟨n, h'⟩ => ⟨n, .bytes h h'⟩
theorem fin {i : Int} {m : Nat} {k : Nat → DT α} (j : Nat) (h : i = j) (hj : j < m) : Sat X fid (k j) Q → Sat X fid (.fin i m k) Q := fun ⟨n, h'⟩ => ⟨n, .fin h hj h'⟩
theorem esz {xs : List AV} {e : Nat} {k : DT α} (h : ∀ v ∈ xs, v.cells.length = e) : Sat X fid k Q → Sat X fid (.esz xs e k) Q := fun ⟨n, h'⟩ => ⟨n, .esz h h'⟩
theorem call {f : FuncId} {args : List AV} {inc : List Blk} {r : Res} {k : Res → DT α} (h : X.call f args inc r) : Sat X fid (k r) Q → Sat X fid (.call f args inc k) Q := fun ⟨n, h'⟩ => ⟨n, .call h h'⟩
theorem meth {t : TypeId} {m : String} {f : FuncId} {b : Bool} {k : FuncId → Bool → DT α} (hm : X.meth t m f b) : Sat X fid (k f b) Q → Sat X fid (.meth t m k) Q := fun ⟨n, h'⟩ => ⟨n, .meth hm h'⟩
theorem ta {t u : TypeId} {b : Bool} {k : Bool → DT α} (h : X.ta t u b) : Sat X fid (k b) Q → Sat X fid (.ta t u k) Q := fun ⟨n, h'⟩ => ⟨n, .ta h h'⟩
theorem loop {body : Code} {live : List (Nat × Nat)} {s : St} {k : Ex → St → DT α} : Sat X fid (execD X.cfg fid body s (againD body live k)) Q → Sat X fid (.loop body live s k) Q := fun ⟨n, h⟩ => ⟨n + 1, .loop h⟩
theorem cast {d d' : DT α} (h : d = d') : Sat X fid d' Q → Sat X fid d Q := fun h' => h ▸ h'
theorem at_ {body : Code} {live : List (Nat × Nat)} {s s' : St} {k : Ex → St → DT α} (h : s = s') : Sat X fid (.loop body live s' k) Q → Sat X fid (.loop body live s k) Q := fun h' => h ▸ h'
/-- A loop: 'st i' at its head, 'I i' holds, 'μ' falls. -/
theorem rounds {ι : Type} {body : Code} {live : List (Nat × Nat)} {k : Ex → St → DT α} {s : St} (st : ι → St) (I : ι → Prop) (μ : ι → Nat) (i : ι) (hs : s = st i) (hi : I i)
    (round : ∀ i, I i → (∀ j, I j → μ j < μ i → Sat X fid (.loop body live (st j) k) Q) → Sat X fid (execD X.cfg fid body (st i) (againD body live k)) Q) : Sat X fid (.loop body live s k) Q := by
  subst hs
  have key : ∀ n i, μ i = n → I i → Sat X fid (.loop body live (st i) k) Q := by
    intro n
    induction n using Nat.strongRecOn with
    | _ n ih =>
      intro i hn hi
      exact loop (round i hi fun j hj hlt => ih (μ j) (hn ▸ hlt) j rfl hj)
  exact key _ i rfl hi
end Sat
end
end Go.Ab
