/- What the document's references answer, as plain Lean. -/
import Derived.Test.YtmkkhaonakdgpaaDoorAbEnc
namespace Go.Ab
open Go
def Stamp.may (s : Stamp) : Bool := decide (1 ≤ s.L ∧ s.L ≤ 5000 ∧ 1 ≤ s.R ∧ s.R ≤ 5 ∧ 1 ≤ s.N ∧ s.N ≤ 1000 ∧ s.N ≤ s.L)
def nextStamp (l r n : Int) : Stamp × Bool :=
  if 0 ≤ l ∧ l < 5000 ∧ 0 ≤ n ∧ n < 1000 ∧ (Stamp.mk (l + 1) r (n + 1)).may = true then (⟨l + 1, r, n + 1⟩, true) else (⟨0, 0, 0⟩, false)
def isLetter (c : UInt8) : Bool := decide (97 ≤ c.toNat ∧ c.toNat ≤ 122)
theorem all_false {T : Type} {l : List T} {k : Nat} {x : T} {f : T → Bool} (h : l[k]? = some x) (hx : f x = false) : l.all f = false := by
  rw [List.all_eq_false]
  exact ⟨x, List.mem_of_getElem? h, by simp [hx]⟩
def headAt (l : List Head) (item : Int) : Stamp := ((l.find? (fun h => decide (h.Item = item))).map Head.S).getD ⟨0, 0, 0⟩
def findV (l : List Version) (item : Int) : Option Version := l.find? (fun v => decide (v.Item = item))
def headsOf (l : List Version) : List Head := l.map fun v => ⟨v.Item, v.S⟩
def attrOf (l : List Attr) (key : Int) : Option Int := (l.find? (fun a => decide (a.Key = key))).map Attr.Val
/-- Attributes that may be, behind a key. -/
def attrsMay : Int → List Attr → Bool
  | _, [] => true
  | last, a :: r => decide (last < a.Key ∧ a.Key < 4 ∧ 0 ≤ a.Val ∧ a.Val ≤ 99) && attrsMay a.Key r
def Version.may (v : Version) : Bool :=
  decide (1 ≤ v.Item ∧ v.Item ≤ 6) && v.S.may && decide (v.Attrs.length ≤ 3) && (v.Tag.all isLetter && decide (v.Tag.length ≤ 6)) && decide (v.Body.length ≤ 12) && !(v.Dead && decide (v.Body ≠ [])) && attrsMay (-1) v.Attrs
def headsMay : Int → List Head → Bool
  | _, [] => true
  | last, h :: r => decide (last < h.Item ∧ 1 ≤ h.Item ∧ h.Item ≤ 6) && h.S.may && headsMay h.Item r
/-- A head is put in by thing; what is there of that thing goes. -/
def insHead (l : List Head) (h : Head) : List Head := l.filter (fun x => decide (x.Item < h.Item)) ++ h :: l.filter (fun x => decide (h.Item < x.Item))
def lastH (l : List Head) : Nat → Int
  | 0 => 0
  | k + 1 => ((l[k]?).map Head.Item).getD 0
/-- Where a head is put in. -/
def insGo : List Head → Head → List Head
  | [], h => [h]
  | x :: r, h => if h.Item ≤ x.Item then h :: (x :: r).filter (fun y => decide (y.Item ≠ h.Item)) else x :: insGo r h
def putHead (l : List Head) (h : Head) : List Head := if h.S.cmp (headAt l h.Item) ≤ 0 then l else insGo l h
end Go.Ab
