/- Walks whose result is told by a property: the steps of AbSat and AbPrj once more (written by mksate.py). -/
import Derived.Test.YtmkkhaonakdgpaaDoorAbPrj
namespace Go.Ab
open Go
section
variable {α : Type} (X : Ctx) (fid : FuncId)
inductive SatEN : Nat → DT α → (α → Prop) → Prop
  | ret {n : Nat} {a : α} {Q : α → Prop} : Q a → SatEN n (.ret a) Q
  | nodeT {n : Nat} {c : Bool} {a b : DT α} {Q : α → Prop} : c = true → SatEN n a Q → SatEN n (.node c a b) Q
  | nodeF {n : Nat} {c : Bool} {a b : DT α} {Q : α → Prop} : c = false → SatEN n b Q → SatEN n (.node c a b) Q
  | amb {n : Nat} {a b : DT α} {Q : α → Prop} : a = b → SatEN n a Q → SatEN n (.amb a b) Q
  | elem {n : Nat} {xs : List AV} {i : Nat} {v : AV} {k : AV → DT α} {Q : α → Prop} : xs[i]? = some v → SatEN n (k v) Q → SatEN n (.elem xs i k) Q
  | byte {n : Nat} {xs : List UInt8} {i : Nat} {v : UInt8} {k : UInt8 → DT α} {Q : α → Prop} : xs[i]? = some v → SatEN n (k v) Q → SatEN n (.byte xs i k) Q
  | bytes {n : Nat} {xs : List AV} {bs : List UInt8} {k : List UInt8 → DT α} {Q : α → Prop} : xs = bs.map (fun c => AV.int .u8 c.toNat) → SatEN n (k bs) Q → SatEN n (.bytes xs k) Q
  | fin {n : Nat} {i : Int} {m j : Nat} {k : Nat → DT α} {Q : α → Prop} : i = j → j < m → SatEN n (k j) Q → SatEN n (.fin i m k) Q
  | esz {n : Nat} {xs : List AV} {e : Nat} {k : DT α} {Q : α → Prop} : (∀ v ∈ xs, v.cells.length = e) → SatEN n k Q → SatEN n (.esz xs e k) Q
  | call {n : Nat} {f : FuncId} {args : List AV} {inc : List Blk} {r : Res} {k : Res → DT α} {Q : α → Prop} : X.call f args inc r → SatEN n (k r) Q → SatEN n (.call f args inc k) Q
  | meth {n : Nat} {t : TypeId} {m : String} {f : FuncId} {b : Bool} {k : FuncId → Bool → DT α} {Q : α → Prop} : X.meth t m f b → SatEN n (k f b) Q → SatEN n (.meth t m k) Q
  | ta {n : Nat} {t u : TypeId} {b : Bool} {k : Bool → DT α} {Q : α → Prop} : X.ta t u b → SatEN n (k b) Q → SatEN n (.ta t u k) Q
  | loop {n : Nat} {body : Code} {live : List (Nat × Nat)} {s : St} {k : Ex → St → DT α} {Q : α → Prop} :
      SatEN n (execD X.cfg fid body s (againD body live k)) Q → SatEN (n + 1) (.loop body live s k) Q


theorem SatEN.mono {n m : Nat} {d : DT α} {Q : α → Prop} (h : SatEN X fid n d Q) (hm : n ≤ m) : SatEN X fid m d Q := by
  induction h generalizing m with
  | ret h => exact .ret h
  | nodeT hc _ ih => exact .nodeT hc (ih hm)
  | nodeF hc _ ih => exact .nodeF hc (ih hm)
  | amb e _ ia => exact .amb e (ia hm)
  | elem h _ ih => exact .elem h (ih hm)
  | byte h _ ih => exact .byte h (ih hm)
  | bytes h _ ih => exact .bytes h (ih hm)
  | fin h h' _ ih => exact .fin h h' (ih hm)
  | esz h _ ih => exact .esz h (ih hm)
  | call h _ ih => exact .call h (ih hm)
  | meth h _ ih => exact .meth h (ih hm)
  | ta h _ ih => exact .ta h (ih hm)
  | loop _ ih =>
    cases m with
    | zero => cases hm
    | succ m => exact .loop (ih (Nat.le_of_succ_le_succ hm))

def SatE (d : DT α) (Q : α → Prop) : Prop := ∃ n, SatEN X fid n d Q

variable {X fid}
variable {Q : α → Prop}
namespace SatE
theorem ret {a : α} (h : Q a) : SatE X fid (.ret a) Q := ⟨0, .ret h⟩
theorem nodeT {c : Bool} {a b : DT α} (hc : c = true) : SatE X fid a Q → SatE X fid (.node c a b) Q := fun ⟨n, h⟩ => ⟨n, .nodeT hc h⟩
theorem nodeF {c : Bool} {a b : DT α} (hc : c = false) : SatE X fid b Q → SatE X fid (.node c a b) Q := fun ⟨n, h⟩ => ⟨n, .nodeF hc h⟩
theorem split {c : Bool} {a b : DT α} (ht : c = true → SatE X fid a Q) (hf : c = false → SatE X fid b Q) : SatE X fid (.node c a b) Q := by
  cases c
  · exact nodeF rfl (hf rfl)
  · exact nodeT rfl (ht rfl)
/-- A test of a proposition. -/
theorem ifT {p : Prop} [Decidable p] {a b : DT α} (hp : p) (h : SatE X fid a Q) : SatE X fid (.node (decide p) a b) Q := nodeT (decide_eq_true hp) h
theorem ifF {p : Prop} [Decidable p] {a b : DT α} (hp : ¬ p) (h : SatE X fid b Q) : SatE X fid (.node (decide p) a b) Q := nodeF (decide_eq_false hp) h
theorem notT {p : Prop} [Decidable p] {a b : DT α} (hp : ¬ p) (h : SatE X fid a Q) : SatE X fid (.node (!decide p) a b) Q := nodeT (by simp [hp]) h
theorem notF {p : Prop} [Decidable p] {a b : DT α} (hp : p) (h : SatE X fid b Q) : SatE X fid (.node (!decide p) a b) Q := nodeF (by simp [hp]) h
theorem amb {a b : DT α} (e : a = b) : SatE X fid a Q → SatE X fid (.amb a b) Q := fun ⟨n, h⟩ => ⟨n, .amb e h⟩
theorem elem {xs : List AV} {i : Nat} {k : AV → DT α} (v : AV) (h : xs[i]? = some v) : SatE X fid (k v) Q → SatE X fid (.elem xs i k) Q := fun ⟨n, h'⟩ => ⟨n, .elem h h'⟩
theorem byte {xs : List UInt8} {i : Nat} {k : UInt8 → DT α} (v : UInt8) (h : xs[i]? = some v) : SatE X fid (k v) Q → SatE X fid (.byte xs i k) Q := fun ⟨n, h'⟩ => ⟨n, .byte h h'⟩
theorem bytes {xs : List AV} {k : List UInt8 → DT α} (bs : List UInt8) (h : xs = bs.map (fun c => AV.int .u8 c.toNat)) : SatE X fid (k bs) Q → SatE X fid (.bytes xs k) Q := fun ⟨n, h'⟩ => ⟨n, .bytes h h'⟩
theorem fin {i : Int} {m : Nat} {k : Nat → DT α} (j : Nat) (h : i = j) (hj : j < m) : SatE X fid (k j) Q → SatE X fid (.fin i m k) Q := fun ⟨n, h'⟩ => ⟨n, .fin h hj h'⟩
theorem esz {xs : List AV} {e : Nat} {k : DT α} (h : ∀ v ∈ xs, v.cells.length = e) : SatE X fid k Q → SatE X fid (.esz xs e k) Q := fun ⟨n, h'⟩ => ⟨n, .esz h h'⟩
theorem call {f : FuncId} {args : List AV} {inc : List Blk} {r : Res} {k : Res → DT α} (h : X.call f args inc r) : SatE X fid (k r) Q → SatE X fid (.call f args inc k) Q := fun ⟨n, h'⟩ => ⟨n, .call h h'⟩
theorem meth {t : TypeId} {m : String} {f : FuncId} {b : Bool} {k : FuncId → Bool → DT α} (hm : X.meth t m f b) : SatE X fid (k f b) Q → SatE X fid (.meth t m k) Q := fun ⟨n, h'⟩ => ⟨n, .meth hm h'⟩
theorem ta {t u : TypeId} {b : Bool} {k : Bool → DT α} (h : X.ta t u b) : SatE X fid (k b) Q → SatE X fid (.ta t u k) Q := fun ⟨n, h'⟩ => ⟨n, .ta h h'⟩
theorem loop {body : Code} {live : List (Nat × Nat)} {s : St} {k : Ex → St → DT α} : SatE X fid (execD X.cfg fid body s (againD body live k)) Q → SatE X fid (.loop body live s k) Q := fun ⟨n, h⟩ => ⟨n + 1, .loop h⟩
theorem cast {d d' : DT α} (h : d = d') : SatE X fid d' Q → SatE X fid d Q := fun h' => h ▸ h'
theorem at_ {body : Code} {live : List (Nat × Nat)} {s s' : St} {k : Ex → St → DT α} (h : s = s') : SatE X fid (.loop body live s' k) Q → SatE X fid (.loop body live s k) Q := fun h' => h ▸ h'
/-- A loop: 'st i' at its head, 'I i' holds, 'μ' falls. -/
theorem rounds {ι : Type} {body : Code} {live : List (Nat × Nat)} {k : Ex → St → DT α} {s : St} (st : ι → St) (I : ι → Prop) (μ : ι → Nat) (i : ι) (hs : s = st i) (hi : I i)
    (round : ∀ i, I i → (∀ j, I j → μ j < μ i → SatE X fid (.loop body live (st j) k) Q) → SatE X fid (execD X.cfg fid body (st i) (againD body live k)) Q) : SatE X fid (.loop body live s k) Q := by
  subst hs
  have key : ∀ n i, μ i = n → I i → SatE X fid (.loop body live (st i) k) Q := by
    intro n
    induction n using Nat.strongRecOn with
    | _ n ih =>
      intro i hn hi
      exact loop (round i hi fun j hj hlt => ih (μ j) (hn ▸ hlt) j rfl hj)
  exact key _ i rfl hi
end SatE
end
variable {α : Type} {X : Ctx} {fid : FuncId} {Q : α → Prop} {d : DT α}
namespace SatE
theorem pJoinE {d' : DT α} {L : St → DT α} {s : St} (s' : St) (h : d = L s') (he : s' = s) (hd : L s = d') (hk : SatE X fid d' Q) : SatE X fid d Q := by
  subst he; subst hd; subst h; exact hk
theorem pRet (a : α) (h : d.retV = some a) (hq : Q a) : SatE X fid d Q := by
  cases d <;> simp [DT.retV] at h
  exact .ret (h ▸ hq)
theorem pNode (c : Bool) (h : d.nodeC = some c) (ha : c = true → SatE X fid d.nodeA Q) (hb : c = false → SatE X fid d.nodeB Q) : SatE X fid d Q := by
  cases d <;> simp [DT.nodeC] at h
  subst h
  exact .split ha hb
theorem pNodeT (c : Bool) (h : d.nodeC = some c) (hc : c = true) (ha : SatE X fid d.nodeA Q) : SatE X fid d Q := by
  cases d <;> simp [DT.nodeC] at h
  subst h
  exact .nodeT hc ha
theorem pNodeF (c : Bool) (h : d.nodeC = some c) (hc : c = false) (hb : SatE X fid d.nodeB Q) : SatE X fid d Q := by
  cases d <;> simp [DT.nodeC] at h
  subst h
  exact .nodeF hc hb
theorem pAmb (h : d.ambC = true) (e : d.ambA = d.ambB) (ha : SatE X fid d.ambA Q) : SatE X fid d Q := by
  cases d <;> simp [DT.ambC] at h
  exact .amb e ha
theorem pElem (xs : List AV) (i : Nat) (v : AV) (h : d.elemC = some (xs, i)) (hv : xs[i]? = some v) (hk : SatE X fid (d.elemK v) Q) : SatE X fid d Q := by
  cases d <;> simp [DT.elemC] at h
  obtain ⟨rfl, rfl⟩ := h
  exact .elem v hv hk
theorem pByte (xs : List UInt8) (i : Nat) (v : UInt8) (h : d.byteC = some (xs, i)) (hv : xs[i]? = some v) (hk : SatE X fid (d.byteK v) Q) : SatE X fid d Q := by
  cases d <;> simp [DT.byteC] at h
  obtain ⟨rfl, rfl⟩ := h
  exact .byte v hv hk
theorem pBytes (xs : List AV) (bs : List UInt8) (h : d.bytesC = some xs) (hv : xs = bs.map (fun c => AV.int .u8 c.toNat)) (hk : SatE X fid (d.bytesK bs) Q) : SatE X fid d Q := by
  cases d <;> simp [DT.bytesC] at h
  subst h
  exact .bytes bs hv hk
theorem pFin (i : Int) (n j : Nat) (h : d.finC = some (i, n)) (hi : i = j) (hj : j < n) (hk : SatE X fid (d.finK j) Q) : SatE X fid d Q := by
  cases d <;> simp [DT.finC] at h
  obtain ⟨rfl, rfl⟩ := h
  exact .fin j hi hj hk
theorem pEsz (xs : List AV) (e : Nat) (h : d.eszC = some (xs, e)) (hv : ∀ v ∈ xs, v.cells.length = e) (hk : SatE X fid d.eszK Q) : SatE X fid d Q := by
  cases d <;> simp [DT.eszC] at h
  obtain ⟨rfl, rfl⟩ := h
  exact .esz hv hk
theorem pCall (f : FuncId) (args : List AV) (inc : List Blk) (r : Res) (h : d.callC = some (f, args, inc)) (hc : X.call f args inc r) (hk : SatE X fid (d.callK r) Q) : SatE X fid d Q := by
  cases d <;> simp [DT.callC] at h
  obtain ⟨rfl, rfl, rfl⟩ := h
  exact .call hc hk
theorem pMeth (t : TypeId) (m : String) (f : FuncId) (b : Bool) (h : d.methC = some (t, m)) (hc : X.meth t m f b) (hk : SatE X fid (d.methK f b) Q) : SatE X fid d Q := by
  cases d <;> simp [DT.methC] at h
  obtain ⟨rfl, rfl⟩ := h
  exact .meth hc hk
theorem pTa (t u : TypeId) (b : Bool) (h : d.taC = some (t, u)) (hc : X.ta t u b) (hk : SatE X fid (d.taK b) Q) : SatE X fid d Q := by
  cases d <;> simp [DT.taC] at h
  obtain ⟨rfl, rfl⟩ := h
  exact .ta hc hk
theorem pAgain (d' : DT α) (h : d = d') (hk : SatE X fid d' Q) : SatE X fid d Q := h ▸ hk
/-- A loop's first round. -/
theorem pUnroll (r : Nat) (s : St) (h : d.loopC = some (r, s)) (hk : SatE X fid (d.round X.cfg fid s) Q) : SatE X fid d Q := by
  cases d <;> simp [DT.loopC] at h
  obtain ⟨rfl, rfl⟩ := h
  exact .loop hk
/-- A loop: 'st i' at its head, 'I i' holds, 'μ' falls. -/
theorem pLoop {ι : Type} (r : Nat) (s : St) (h : d.loopC = some (r, s)) (st : ι → St) (I : ι → Prop) (μ : ι → Nat) (i : ι) (hs : s = st i) (hi : I i)
    (round : ∀ i, I i → (∀ j, I j → μ j < μ i → SatE X fid (d.loopAt (st j)) Q) → SatE X fid (d.round X.cfg fid (st i)) Q) : SatE X fid d Q := by
  cases d <;> simp [DT.loopC] at h
  obtain ⟨rfl, rfl⟩ := h
  exact .rounds st I μ i hs hi round
/-- A test of a proposition. -/
theorem pIf (p : Prop) [Decidable p] (h : d.nodeC = some (decide p)) (ha : p → SatE X fid d.nodeA Q) (hb : ¬ p → SatE X fid d.nodeB Q) : SatE X fid d Q :=
  pNode _ h (fun h => ha (of_decide_eq_true h)) (fun h => hb (of_decide_eq_false h))
theorem pIfN (p : Prop) [Decidable p] (h : d.nodeC = some (!decide p)) (ha : ¬ p → SatE X fid d.nodeA Q) (hb : p → SatE X fid d.nodeB Q) : SatE X fid d Q :=
  pNode _ h (fun h => ha (by simpa using h)) (fun h => hb (by simpa using h))
theorem pNodeN (c : Bool) (h : d.nodeC = some (!c)) (ha : c = false → SatE X fid d.nodeA Q) (hb : c = true → SatE X fid d.nodeB Q) : SatE X fid d Q :=
  pNode _ h (fun h => ha (by simpa using h)) (fun h => hb (by simpa using h))
theorem pIfT (p : Prop) [Decidable p] (h : d.nodeC = some (decide p)) (hp : p) (ha : SatE X fid d.nodeA Q) : SatE X fid d Q := pNodeT _ h (decide_eq_true hp) ha
theorem pIfF (p : Prop) [Decidable p] (h : d.nodeC = some (decide p)) (hp : ¬ p) (hb : SatE X fid d.nodeB Q) : SatE X fid d Q := pNodeF _ h (decide_eq_false hp) hb
/-- An element of a row of one kind. -/
theorem pElemM {T : Type} (enc : T → AV) (l : List T) (xs : List AV) (i : Nat) (h : d.elemC = some (xs, i)) (he : xs = l.map enc) (hi : i < l.length) (hk : ∀ x, l[i]? = some x → SatE X fid (d.elemK (enc x)) Q) : SatE X fid d Q := by
  subst he
  exact pElem _ i (enc l[i]) h (by simp [hi]) (hk _ (by simp [hi]))
theorem pByteM (bs : List UInt8) (i : Nat) (h : d.byteC = some (bs, i)) (hi : i < bs.length) (hk : ∀ x, bs[i]? = some x → SatE X fid (d.byteK x) Q) : SatE X fid d Q :=
  pByte _ i bs[i] h (by simp [hi]) (hk _ (by simp [hi]))
theorem pEszM {T : Type} (enc : T → AV) (l : List T) (xs : List AV) (e : Nat) (h : d.eszC = some (xs, e)) (he : xs = l.map enc) (hn : ∀ x, (enc x).cells.length = e) (hk : SatE X fid d.eszK Q) : SatE X fid d Q := by
  subst he
  exact pEsz _ e h (fun v hv => by obtain ⟨x, -, rfl⟩ := List.mem_map.1 hv; exact hn x) hk
/-- A call of known law, at arguments that are alike. -/
theorem pCallE (f : FuncId) (args : List AV) (inc : List Blk) {args' : List AV} {inc' : List Blk} {r : Res} (h : d.callC = some (f, args, inc)) (ha : args = args') (hi : inc = inc') (hc : X.call f args' inc' r) (hk : SatE X fid (d.callK r) Q) : SatE X fid d Q :=
  pCall f args inc r h (ha ▸ hi ▸ hc) hk
theorem pAgainE {d0 : DT α} {s : St} (s' : St) (h : d = d0.loopAt s') (he : s' = s) (hk : SatE X fid (d0.loopAt s) Q) : SatE X fid d Q := by
  subst he; subst h; exact hk
/-- The same test in other words. -/
theorem pIfE (p p' : Prop) [Decidable p] (h : d.nodeC = some (decide p)) (hp : p ↔ p') (ha : p' → SatE X fid d.nodeA Q) (hb : ¬ p' → SatE X fid d.nodeB Q) : SatE X fid d Q :=
  pIf p h (fun h => ha (hp.1 h)) (fun h => hb fun h' => h (hp.2 h'))
theorem pIfEN (p p' : Prop) [Decidable p] (h : d.nodeC = some (!decide p)) (hp : p ↔ p') (ha : ¬ p' → SatE X fid d.nodeA Q) (hb : p' → SatE X fid d.nodeB Q) : SatE X fid d Q :=
  pIfN p h (fun h => ha fun h' => h (hp.2 h')) (fun h => hb (hp.1 h))
theorem pNodeE (c : Bool) (p' : Prop) (h : d.nodeC = some c) (hp : c = true ↔ p') (ha : p' → SatE X fid d.nodeA Q) (hb : ¬ p' → SatE X fid d.nodeB Q) : SatE X fid d Q :=
  pNode c h (fun h => ha (hp.1 h)) (fun h => hb fun h' => by rw [hp.2 h'] at h; cases h)
theorem pNodeEN (c : Bool) (p' : Prop) (h : d.nodeC = some (!c)) (hp : c = true ↔ p') (ha : ¬ p' → SatE X fid d.nodeA Q) (hb : p' → SatE X fid d.nodeB Q) : SatE X fid d Q :=
  pNodeN c h (fun h => ha fun h' => by rw [hp.2 h'] at h; cases h) (fun h => hb (hp.1 h))
/-- An element that is known. -/
theorem pElemH {T : Type} (enc : T → AV) (l : List T) (xs : List AV) (i i' : Nat) (x : T) (h : d.elemC = some (xs, i)) (e : i = i') (he : xs = l.map enc) (hx : l[i']? = some x) (hk : SatE X fid (d.elemK (enc x)) Q) : SatE X fid d Q := by
  subst e; subst he
  exact pElem _ i (enc x) h (by simp [hx]) hk
theorem pByteH (bs : List UInt8) (i i' : Nat) (x : UInt8) (h : d.byteC = some (bs, i)) (e : i = i') (hx : bs[i']? = some x) (hk : SatE X fid (d.byteK x) Q) : SatE X fid d Q := by
  subst e
  exact pByte bs i x h hx hk
/-- At a place in other words. -/
theorem pElemME {T : Type} (enc : T → AV) (l : List T) (xs : List AV) (i i' : Nat) (h : d.elemC = some (xs, i)) (e : i = i') (he : xs = l.map enc) (hi : i' < l.length) (hk : ∀ x, l[i']? = some x → SatE X fid (d.elemK (enc x)) Q) : SatE X fid d Q := by
  subst e
  exact pElemM enc l xs i h he hi hk
theorem pByteME (bs : List UInt8) (i i' : Nat) (h : d.byteC = some (bs, i)) (e : i = i') (hi : i' < bs.length) (hk : ∀ x, bs[i']? = some x → SatE X fid (d.byteK x) Q) : SatE X fid d Q := by
  subst e
  exact pByteM bs i h hi hk
theorem pIfET (p p' : Prop) [Decidable p] (h : d.nodeC = some (decide p)) (hp : p ↔ p') (h' : p') (ha : SatE X fid d.nodeA Q) : SatE X fid d Q := pIfT p h (hp.2 h') ha
theorem pIfEF (p p' : Prop) [Decidable p] (h : d.nodeC = some (decide p)) (hp : p ↔ p') (h' : ¬ p') (ha : SatE X fid d.nodeB Q) : SatE X fid d Q := pIfF p h (fun h => h' (hp.1 h)) ha
theorem pIfENT (p p' : Prop) [Decidable p] (h : d.nodeC = some (!decide p)) (hp : p ↔ p') (h' : ¬ p') (ha : SatE X fid d.nodeA Q) : SatE X fid d Q := pIfN p h (fun _ => ha) (fun h => absurd (hp.1 h) h')
theorem pIfENF (p p' : Prop) [Decidable p] (h : d.nodeC = some (!decide p)) (hp : p ↔ p') (h' : p') (ha : SatE X fid d.nodeB Q) : SatE X fid d Q := pIfN p h (fun h => absurd (hp.2 h') h) (fun _ => ha)
theorem pNodeET (c : Bool) (p' : Prop) (h : d.nodeC = some c) (hp : c = true ↔ p') (h' : p') (ha : SatE X fid d.nodeA Q) : SatE X fid d Q := pNodeT c h (hp.2 h') ha
theorem pNodeEF (c : Bool) (p' : Prop) (h : d.nodeC = some c) (hp : c = true ↔ p') (h' : ¬ p') (ha : SatE X fid d.nodeB Q) : SatE X fid d Q := pNodeF c h (by cases c <;> simp_all) ha
theorem pFinAll (i : Int) (n : Nat) (h : d.finC = some (i, n)) (hi : 0 ≤ i ∧ i < n) (hk : Sat.FinAll n fun j => i = (j : Int) → SatE X fid (d.finK j) Q) : SatE X fid d Q :=
  pFin i n i.toNat h (by omega) (by omega) (hk.get _ (by omega) (by omega))
theorem pNodeENT (c : Bool) (p' : Prop) (h : d.nodeC = some (!c)) (hp : c = true ↔ p') (h' : p') (hb : SatE X fid d.nodeB Q) : SatE X fid d Q := pNodeF _ h (by rw [hp.2 h']; rfl) hb
theorem pNodeENF (c : Bool) (p' : Prop) (h : d.nodeC = some (!c)) (hp : c = true ↔ p') (h' : ¬ p') (ha : SatE X fid d.nodeA Q) : SatE X fid d Q := pNodeT _ h (by cases c <;> simp_all) ha
theorem pFin2 (i : Int) (h : d.finC = some (i, 2)) (hi : 0 ≤ i ∧ i < 2) (h0 : i = 0 → SatE X fid (d.finK 0) Q) (h1 : i = 1 → SatE X fid (d.finK 1) Q) : SatE X fid d Q :=
  pFinAll i 2 h hi ⟨⟨trivial, h0⟩, h1⟩
theorem pFin3 (i : Int) (h : d.finC = some (i, 3)) (hi : 0 ≤ i ∧ i < 3) (h0 : i = 0 → SatE X fid (d.finK 0) Q) (h1 : i = 1 → SatE X fid (d.finK 1) Q) (h2 : i = 2 → SatE X fid (d.finK 2) Q) : SatE X fid d Q :=
  pFinAll i 3 h hi ⟨⟨⟨trivial, h0⟩, h1⟩, h2⟩
theorem pFin4 (i : Int) (h : d.finC = some (i, 4)) (hi : 0 ≤ i ∧ i < 4) (h0 : i = 0 → SatE X fid (d.finK 0) Q) (h1 : i = 1 → SatE X fid (d.finK 1) Q) (h2 : i = 2 → SatE X fid (d.finK 2) Q) (h3 : i = 3 → SatE X fid (d.finK 3) Q) : SatE X fid d Q :=
  pFinAll i 4 h hi ⟨⟨⟨⟨trivial, h0⟩, h1⟩, h2⟩, h3⟩
end SatE

theorem SatEN.sat {α : Type} {X : Ctx} {fid : FuncId} {n : Nat} {d : DT α} {Q : α → Prop} (h : SatEN X fid n d Q) : ∃ r, Q r ∧ SatN X fid n d (· = r) := by
  induction h with
  | ret h => exact ⟨_, h, .ret rfl⟩
  | nodeT hc _ ih => obtain ⟨r, hr, h⟩ := ih; exact ⟨r, hr, .nodeT hc h⟩
  | nodeF hc _ ih => obtain ⟨r, hr, h⟩ := ih; exact ⟨r, hr, .nodeF hc h⟩
  | amb e _ ih => obtain ⟨r, hr, h⟩ := ih; subst e; exact ⟨r, hr, .amb h h⟩
  | elem hv _ ih => obtain ⟨r, hr, h⟩ := ih; exact ⟨r, hr, .elem hv h⟩
  | byte hv _ ih => obtain ⟨r, hr, h⟩ := ih; exact ⟨r, hr, .byte hv h⟩
  | bytes hv _ ih => obtain ⟨r, hr, h⟩ := ih; exact ⟨r, hr, .bytes hv h⟩
  | fin hi hj _ ih => obtain ⟨r, hr, h⟩ := ih; exact ⟨r, hr, .fin hi hj h⟩
  | esz hv _ ih => obtain ⟨r, hr, h⟩ := ih; exact ⟨r, hr, .esz hv h⟩
  | call hc _ ih => obtain ⟨r, hr, h⟩ := ih; exact ⟨r, hr, .call hc h⟩
  | meth hc _ ih => obtain ⟨r, hr, h⟩ := ih; exact ⟨r, hr, .meth hc h⟩
  | ta hc _ ih => obtain ⟨r, hr, h⟩ := ih; exact ⟨r, hr, .ta hc h⟩
  | loop _ ih => obtain ⟨r, hr, h⟩ := ih; exact ⟨r, hr, .loop h⟩
theorem SatE.sat {α : Type} {X : Ctx} {fid : FuncId} {d : DT α} {Q : α → Prop} (h : SatE X fid d Q) : ∃ r, Q r ∧ Sat X fid d (· = r) := by
  obtain ⟨n, h⟩ := h
  obtain ⟨r, hr, h⟩ := h.sat
  exact ⟨r, hr, n, h⟩
theorem spec_ex {P : Program} {Φg : Phi} {X : Ctx} (hX : CtxOk P Φg X) {f : FuncId} {fn : Func} {dg : List (Nat × Nat × List Dig)} (hf : P.funcs[f]? = some fn) (hb : fnB X.cfg dg f fn = true) {args : List AV} {inc : List Blk} {T : Type} {F : T → Res} {C : T → Prop}
    (h : SatE X f (startD X.cfg f fn args inc) (fun r => ∃ v, r = F v ∧ C v)) : ∃ v, SoundCall P Φg f args inc (F v) ∧ C v := by
  obtain ⟨r, ⟨v, rfl, hv⟩, h⟩ := h.sat
  exact ⟨v, spec_of hX hf hb h, hv⟩
end Go.Ab
