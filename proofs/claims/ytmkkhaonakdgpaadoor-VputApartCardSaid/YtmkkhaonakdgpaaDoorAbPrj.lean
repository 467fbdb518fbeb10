/- Steps of a walk, by what the runner comes to next: read off by the kernel. -/
import Derived.Test.YtmkkhaonakdgpaaDoorAbSeat
namespace Go.Ab
open Go
section
variable {α : Type}
def DT.retV : DT α → Option α
  | .ret a => some a
  | _ => none
def DT.nodeC : DT α → Option Bool
  | .node c _ _ => some c
  | _ => none
def DT.nodeA : DT α → DT α
  | .node _ a _ => a
  | _ => .fail 0
def DT.nodeB : DT α → DT α
  | .node _ _ b => b
  | _ => .fail 0
def DT.ambC : DT α → Bool
  | .amb _ _ => true
  | _ => false
def DT.ambA : DT α → DT α
  | .amb a _ => a
  | _ => .fail 0
def DT.ambB : DT α → DT α
  | .amb _ b => b
  | _ => .fail 0
def DT.elemC : DT α → Option (List AV × Nat)
  | .elem xs i _ => some (xs, i)
  | _ => none
def DT.elemK : DT α → AV → DT α
  | .elem _ _ k, v => k v
  | _, _ => .fail 0
def DT.byteC : DT α → Option (List UInt8 × Nat)
  | .byte xs i _ => some (xs, i)
  | _ => none
def DT.byteK : DT α → UInt8 → DT α
  | .byte _ _ k, v => k v
  | _, _ => .fail 0
def DT.bytesC : DT α → Option (List AV)
  | .bytes xs _ => some xs
  | _ => none
def DT.bytesK : DT α → List UInt8 → DT α
  | .bytes _ k, v => k v
  | _, _ => .fail 0
def DT.finC : DT α → Option (Int × Nat)
  | .fin i n _ => some (i, n)
  | _ => none
def DT.finK : DT α → Nat → DT α
  | .fin _ _ k, v => k v
  | _, _ => .fail 0
def DT.eszC : DT α → Option (List AV × Nat)
  | .esz xs e _ => some (xs, e)
  | _ => none
def DT.eszK : DT α → DT α
  | .esz _ _ k => k
  | _ => .fail 0
def DT.callC : DT α → Option (FuncId × List AV × List Blk)
  | .call f args inc _ => some (f, args, inc)
  | _ => none
def DT.callK : DT α → Res → DT α
  | .call _ _ _ k, v => k v
  | _, _ => .fail 0
def DT.methC : DT α → Option (TypeId × String)
  | .meth t m _ => some (t, m)
  | _ => none
def DT.methK : DT α → FuncId → Bool → DT α
  | .meth _ _ k, f, b => k f b
  | _, _, _ => .fail 0
def DT.taC : DT α → Option (TypeId × TypeId)
  | .ta t u _ => some (t, u)
  | _ => none
def DT.taK : DT α → Bool → DT α
  | .ta _ _ k, b => k b
  | _, _ => .fail 0
/-- A loop: its first region, its state. -/
def DT.loopC : DT α → Option (Nat × St)
  | .loop body _ s _ => some (firstRegion body, s)
  | _ => none
def DT.loopAt : DT α → St → DT α
  | .loop body live _ k, s => .loop body live s k
  | _, _ => .fail 0
def DT.round (cfg : Cfg) (fid : FuncId) : DT α → St → DT α
  | .loop body live _ k, s => execD cfg fid body s (againD body live k)
  | _, _ => .fail 0
end
section
variable {α : Type} (cfg : Cfg) (fid : FuncId)
/-- A loop of a function, with what comes behind it: found in the code. -/
def findL : Code → (Ex → St → DT α) → Nat → Option (Code × (Ex → St → DT α))
  | .seq a b, k, r => match findL a (fun e s' => match e with
      | .normal => execD cfg fid b s' k
      | e => k e s') r with
    | some x => some x
    | none => findL b k r
  | .cond _ a b, k, r => match findL a k r with
    | some x => some x
    | none => findL b k r
  | .block id a, k, r => findL a (fun e s' => match e with
    | .exit id' => bif Nat.beq id' id then k .normal s' else k (.exit id') s'
    | e => k e s') r
  | .loop a, k, r => bif Nat.beq (firstRegion a) r then some (a, k) else findL a (againD a (cfg.live fid (firstRegion a)) k) r
  | _, _, _ => none
/-- The loop that begins with region r, at a state. -/
def loopD (fn : Func) (ninc : Nat) (r : Nat) (s : St) : DT Res :=
  match fn.body with
  | some c => match findL cfg fid c (fun e s => match e with
      | .exit _ => .fail 178
      | _ => resultsD cfg s fn.results.toList fun vs => finishD cfg fid s ninc vs) r with
    | some (a, k) => .loop a (cfg.live fid (firstRegion a)) s k
    | none => .fail 0
  | none => .fail 0
end
variable {α : Type} {X : Ctx} {fid : FuncId} {Q : α → Prop} {d : DT α}
namespace Sat
theorem pJoinE {d' : DT α} {L : St → DT α} {s : St} (s' : St) (h : d = L s') (he : s' = s) (hd : L s = d') (hk : Sat X fid d' Q) : Sat X fid d Q := by
  subst he; subst hd; subst h; exact hk
theorem pRet (a : α) (h : d.retV = some a) (hq : Q a) : Sat X fid d Q := by
  cases d <;> simp [DT.retV] at h
  exact .ret (h ▸ hq)
theorem pNode (c : Bool) (h : d.nodeC = some c) (ha : c = true → Sat X fid d.nodeA Q) (hb : c = false → Sat X fid d.nodeB Q) : Sat X fid d Q := by
  cases d <;> simp [DT.nodeC] at h
  subst h
  exact .split ha hb
theorem pNodeT (c : Bool) (h : d.nodeC = some c) (hc : c = true) (ha : Sat X fid d.nodeA Q) : Sat X fid d Q := by
  cases d <;> simp [DT.nodeC] at h
  subst h
  exact .nodeT hc ha
theorem pNodeF (c : Bool) (h : d.nodeC = some c) (hc : c = false) (hb : Sat X fid d.nodeB Q) : Sat X fid d Q := by
  cases d <;> simp [DT.nodeC] at h
  subst h
  exact .nodeF hc hb
theorem pAmb (h : d.ambC = true) (ha : Sat X fid d.ambA Q) (hb : Sat X fid d.ambB Q) : Sat X fid d Q := by
  cases d <;> simp [DT.ambC] at h
  exact .amb ha hb
theorem pElem (xs : List AV) (i : Nat) (v : AV) (h : d.elemC = some (xs, i)) (hv : xs[i]? = some v) (hk : Sat X fid (d.elemK v) Q) : Sat X fid d Q := by
  cases d <;> simp [DT.elemC] at h
  obtain ⟨rfl, rfl⟩ := h
  exact .elem v hv hk
theorem pByte (xs : List UInt8) (i : Nat) (v : UInt8) (h : d.byteC = some (xs, i)) (hv : xs[i]? = some v) (hk : Sat X fid (d.byteK v) Q) : Sat X fid d Q := by
  cases d <;> simp [DT.byteC] at h
  obtain ⟨rfl, rfl⟩ := h
  exact .byte v hv hk
theorem pBytes (xs : List AV) (bs : List UInt8) (h : d.bytesC = some xs) (hv : xs = bs.map (fun c => AV.int .u8 c.toNat)) (hk : Sat X fid (d.bytesK bs) Q) : Sat X fid d Q := by
  cases d <;> simp [DT.bytesC] at h
  subst h
  exact .bytes bs hv hk
theorem pFin (i : Int) (n j : Nat) (h : d.finC = some (i, n)) (hi : i = j) (hj : j < n) (hk : Sat X fid (d.finK j) Q) : Sat X fid d Q := by
  cases d <;> simp [DT.finC] at h
  obtain ⟨rfl, rfl⟩ := h
  exact .fin j hi hj hk
theorem pEsz (xs : List AV) (e : Nat) (h : d.eszC = some (xs, e)) (hv : ∀ v ∈ xs, v.cells.length = e) (hk : Sat X fid d.eszK Q) : Sat X fid d Q := by
  cases d <;> simp [DT.eszC] at h
  obtain ⟨rfl, rfl⟩ := h
  exact .esz hv hk
theorem pCall (f : FuncId) (args : List AV) (inc : List Blk) (r : Res) (h : d.callC = some (f, args, inc)) (hc : X.call f args inc r) (hk : Sat X fid (d.callK r) Q) : Sat X fid d Q := by
  cases d <;> simp [DT.callC] at h
  obtain ⟨rfl, rfl, rfl⟩ := h
  exact .call hc hk
theorem pMeth (t : TypeId) (m : String) (f : FuncId) (b : Bool) (h : d.methC = some (t, m)) (hc : X.meth t m f b) (hk : Sat X fid (d.methK f b) Q) : Sat X fid d Q := by
  cases d <;> simp [DT.methC] at h
  obtain ⟨rfl, rfl⟩ := h
  exact .meth hc hk
theorem pTa (t u : TypeId) (b : Bool) (h : d.taC = some (t, u)) (hc : X.ta t u b) (hk : Sat X fid (d.taK b) Q) : Sat X fid d Q := by
  cases d <;> simp [DT.taC] at h
  obtain ⟨rfl, rfl⟩ := h
  exact .ta hc hk
theorem pAgain (d' : DT α) (h : d = d') (hk : Sat X fid d' Q) : Sat X fid d Q := h ▸ hk
/-- A loop's first round. -/
theorem pUnroll (r : Nat) (s : St) (h : d.loopC = some (r, s)) (hk : Sat X fid (d.round X.cfg fid s) Q) : Sat X fid d Q := by
  cases d <;> simp [DT.loopC] at h
  obtain ⟨rfl, rfl⟩ := h
  exact .loop hk
/-- A loop: 'st i' at its head, 'I i' holds, 'μ' falls. -/
theorem pLoop {ι : Type} (r : Nat) (s : St) (h : d.loopC = some (r, s)) (st : ι → St) (I : ι → Prop) (μ : ι → Nat) (i : ι) (hs : s = st i) (hi : I i)
    (round : ∀ i, I i → (∀ j, I j → μ j < μ i → Sat X fid (d.loopAt (st j)) Q) → Sat X fid (d.round X.cfg fid (st i)) Q) : Sat X fid d Q := by
  cases d <;> simp [DT.loopC] at h
  obtain ⟨rfl, rfl⟩ := h
  exact .rounds st I μ i hs hi round
/-- A test of a proposition. -/
theorem pIf (p : Prop) [Decidable p] (h : d.nodeC = some (decide p)) (ha : p → Sat X fid d.nodeA Q) (hb : ¬ p → Sat X fid d.nodeB Q) : Sat X fid d Q :=
  pNode _ h (fun h => ha (of_decide_eq_true h)) (fun h => hb (of_decide_eq_false h))
theorem pIfN (p : Prop) [Decidable p] (h : d.nodeC = some (!decide p)) (ha : ¬ p → Sat X fid d.nodeA Q) (hb : p → Sat X fid d.nodeB Q) : Sat X fid d Q :=
  pNode _ h (fun h => ha (by simpa using h)) (fun h => hb (by simpa using h))
theorem pNodeN (c : Bool) (h : d.nodeC = some (!c)) (ha : c = false → Sat X fid d.nodeA Q) (hb : c = true → Sat X fid d.nodeB Q) : Sat X fid d Q :=
  pNode _ h (fun h => ha (by simpa using h)) (fun h => hb (by simpa using h))
theorem pIfT (p : Prop) [Decidable p] (h : d.nodeC = some (decide p)) (hp : p) (ha : Sat X fid d.nodeA Q) : Sat X fid d Q := pNodeT _ h (decide_eq_true hp) ha
theorem pIfF (p : Prop) [Decidable p] (h : d.nodeC = some (decide p)) (hp : ¬ p) (hb : Sat X fid d.nodeB Q) : Sat X fid d Q := pNodeF _ h (decide_eq_false hp) hb
/-- An element of a row of one kind. -/
theorem pElemM {T : Type} (enc : T → AV) (l : List T) (xs : List AV) (i : Nat) (h : d.elemC = some (xs, i)) (he : xs = l.map enc) (hi : i < l.length) (hk : ∀ x, l[i]? = some x → Sat X fid (d.elemK (enc x)) Q) : Sat X fid d Q := by
  subst he
  exact pElem _ i (enc l[i]) h (by simp [hi]) (hk _ (by simp [hi]))
theorem pByteM (bs : List UInt8) (i : Nat) (h : d.byteC = some (bs, i)) (hi : i < bs.length) (hk : ∀ x, bs[i]? = some x → Sat X fid (d.byteK x) Q) : Sat X fid d Q :=
  pByte _ i bs[i] h (by simp [hi]) (hk _ (by simp [hi]))
theorem pEszM {T : Type} (enc : T → AV) (l : List T) (xs : List AV) (e : Nat) (h : d.eszC = some (xs, e)) (he : xs = l.map enc) (hn : ∀ x, (enc x).cells.length = e) (hk : Sat X fid d.eszK Q) : Sat X fid d Q := by
  subst he
  exact pEsz _ e h (fun v hv => by obtain ⟨x, -, rfl⟩ := List.mem_map.1 hv; exact hn x) hk
/-- A call of known law, at arguments that are alike. -/
theorem pCallE (f : FuncId) (args : List AV) (inc : List Blk) {args' : List AV} {inc' : List Blk} {r : Res} (h : d.callC = some (f, args, inc)) (ha : args = args') (hi : inc = inc') (hc : X.call f args' inc' r) (hk : Sat X fid (d.callK r) Q) : Sat X fid d Q :=
  pCall f args inc r h (ha ▸ hi ▸ hc) hk
theorem pAgainE {d0 : DT α} {s : St} (s' : St) (h : d = d0.loopAt s') (he : s' = s) (hk : Sat X fid (d0.loopAt s) Q) : Sat X fid d Q := by
  subst he; subst h; exact hk
/-- The same test in other words. -/
theorem pIfE (p p' : Prop) [Decidable p] (h : d.nodeC = some (decide p)) (hp : p ↔ p') (ha : p' → Sat X fid d.nodeA Q) (hb : ¬ p' → Sat X fid d.nodeB Q) : Sat X fid d Q :=
  pIf p h (fun h => ha (hp.1 h)) (fun h => hb fun h' => h (hp.2 h'))
theorem pIfEN (p p' : Prop) [Decidable p] (h : d.nodeC = some (!decide p)) (hp : p ↔ p') (ha : ¬ p' → Sat X fid d.nodeA Q) (hb : p' → Sat X fid d.nodeB Q) : Sat X fid d Q :=
  pIfN p h (fun h => ha fun h' => h (hp.2 h')) (fun h => hb (hp.1 h))
theorem pNodeE (c : Bool) (p' : Prop) (h : d.nodeC = some c) (hp : c = true ↔ p') (ha : p' → Sat X fid d.nodeA Q) (hb : ¬ p' → Sat X fid d.nodeB Q) : Sat X fid d Q :=
  pNode c h (fun h => ha (hp.1 h)) (fun h => hb fun h' => by rw [hp.2 h'] at h; cases h)
theorem pNodeEN (c : Bool) (p' : Prop) (h : d.nodeC = some (!c)) (hp : c = true ↔ p') (ha : ¬ p' → Sat X fid d.nodeA Q) (hb : p' → Sat X fid d.nodeB Q) : Sat X fid d Q :=
  pNodeN c h (fun h => ha fun h' => by rw [hp.2 h'] at h; cases h) (fun h => hb (hp.1 h))
/-- An element that is known. -/
theorem pElemH {T : Type} (enc : T → AV) (l : List T) (xs : List AV) (i i' : Nat) (x : T) (h : d.elemC = some (xs, i)) (e : i = i') (he : xs = l.map enc) (hx : l[i']? = some x) (hk : Sat X fid (d.elemK (enc x)) Q) : Sat X fid d Q := by
  subst e; subst he
  exact pElem _ i (enc x) h (by simp [hx]) hk
theorem pByteH (bs : List UInt8) (i i' : Nat) (x : UInt8) (h : d.byteC = some (bs, i)) (e : i = i') (hx : bs[i']? = some x) (hk : Sat X fid (d.byteK x) Q) : Sat X fid d Q := by
  subst e
  exact pByte bs i x h hx hk
/-- At a place in other words. -/
theorem pElemME {T : Type} (enc : T → AV) (l : List T) (xs : List AV) (i i' : Nat) (h : d.elemC = some (xs, i)) (e : i = i') (he : xs = l.map enc) (hi : i' < l.length) (hk : ∀ x, l[i']? = some x → Sat X fid (d.elemK (enc x)) Q) : Sat X fid d Q := by
  subst e
  exact pElemM enc l xs i h he hi hk
theorem pByteME (bs : List UInt8) (i i' : Nat) (h : d.byteC = some (bs, i)) (e : i = i') (hi : i' < bs.length) (hk : ∀ x, bs[i']? = some x → Sat X fid (d.byteK x) Q) : Sat X fid d Q := by
  subst e
  exact pByteM bs i h hi hk
theorem pIfET (p p' : Prop) [Decidable p] (h : d.nodeC = some (decide p)) (hp : p ↔ p') (h' : p') (ha : Sat X fid d.nodeA Q) : Sat X fid d Q := pIfT p h (hp.2 h') ha
theorem pIfEF (p p' : Prop) [Decidable p] (h : d.nodeC = some (decide p)) (hp : p ↔ p') (h' : ¬ p') (ha : Sat X fid d.nodeB Q) : Sat X fid d Q := pIfF p h (fun h => h' (hp.1 h)) ha
theorem pIfENT (p p' : Prop) [Decidable p] (h : d.nodeC = some (!decide p)) (hp : p ↔ p') (h' : ¬ p') (ha : Sat X fid d.nodeA Q) : Sat X fid d Q := pIfN p h (fun _ => ha) (fun h => absurd (hp.1 h) h')
theorem pIfENF (p p' : Prop) [Decidable p] (h : d.nodeC = some (!decide p)) (hp : p ↔ p') (h' : p') (ha : Sat X fid d.nodeB Q) : Sat X fid d Q := pIfN p h (fun h => absurd (hp.2 h') h) (fun _ => ha)
theorem pNodeET (c : Bool) (p' : Prop) (h : d.nodeC = some c) (hp : c = true ↔ p') (h' : p') (ha : Sat X fid d.nodeA Q) : Sat X fid d Q := pNodeT c h (hp.2 h') ha
theorem pNodeEF (c : Bool) (p' : Prop) (h : d.nodeC = some c) (hp : c = true ↔ p') (h' : ¬ p') (ha : Sat X fid d.nodeB Q) : Sat X fid d Q := pNodeF c h (by cases c <;> simp_all) ha
/-- All of the first n. -/
def FinAll : Nat → (Nat → Prop) → Prop
  | 0, _ => True
  | n + 1, P => FinAll n P ∧ P n
theorem FinAll.get {P : Nat → Prop} : ∀ {n : Nat}, FinAll n P → ∀ j, j < n → P j
  | 0, _, j, hj => by omega
  | n + 1, h, j, hj => by
    by_cases e : j = n
    · subst e; exact h.2
    · exact h.1.get j (by omega)
theorem pFinAll (i : Int) (n : Nat) (h : d.finC = some (i, n)) (hi : 0 ≤ i ∧ i < n) (hk : FinAll n fun j => i = (j : Int) → Sat X fid (d.finK j) Q) : Sat X fid d Q :=
  pFin i n i.toNat h (by omega) (by omega) (hk.get _ (by omega) (by omega))
theorem pNodeENT (c : Bool) (p' : Prop) (h : d.nodeC = some (!c)) (hp : c = true ↔ p') (h' : p') (hb : Sat X fid d.nodeB Q) : Sat X fid d Q := pNodeF _ h (by rw [hp.2 h']; rfl) hb
theorem pNodeENF (c : Bool) (p' : Prop) (h : d.nodeC = some (!c)) (hp : c = true ↔ p') (h' : ¬ p') (ha : Sat X fid d.nodeA Q) : Sat X fid d Q := pNodeT _ h (by cases c <;> simp_all) ha
theorem pFin2 (i : Int) (h : d.finC = some (i, 2)) (hi : 0 ≤ i ∧ i < 2) (h0 : i = 0 → Sat X fid (d.finK 0) Q) (h1 : i = 1 → Sat X fid (d.finK 1) Q) : Sat X fid d Q :=
  pFinAll i 2 h hi ⟨⟨trivial, h0⟩, h1⟩
theorem pFin3 (i : Int) (h : d.finC = some (i, 3)) (hi : 0 ≤ i ∧ i < 3) (h0 : i = 0 → Sat X fid (d.finK 0) Q) (h1 : i = 1 → Sat X fid (d.finK 1) Q) (h2 : i = 2 → Sat X fid (d.finK 2) Q) : Sat X fid d Q :=
  pFinAll i 3 h hi ⟨⟨⟨trivial, h0⟩, h1⟩, h2⟩
theorem pFin4 (i : Int) (h : d.finC = some (i, 4)) (hi : 0 ≤ i ∧ i < 4) (h0 : i = 0 → Sat X fid (d.finK 0) Q) (h1 : i = 1 → Sat X fid (d.finK 1) Q) (h2 : i = 2 → Sat X fid (d.finK 2) Q) (h3 : i = 3 → Sat X fid (d.finK 3) Q) : Sat X fid d Q :=
  pFinAll i 4 h hi ⟨⟨⟨⟨trivial, h0⟩, h1⟩, h2⟩, h3⟩
end Sat
end Go.Ab
