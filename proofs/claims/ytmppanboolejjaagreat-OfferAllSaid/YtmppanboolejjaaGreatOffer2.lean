/- slices: versions in the order of their stamps. -/
import Derived.Test.YtmppanboolejjaaGreatOffer1
namespace Go.Ab.Tryz
open Go
set_option maxRecDepth 100000
set_option maxHeartbeats 4000000
theorem swap_perm {T : Type} {q : List T} {i j : Nat} {x y : T} (hx : q[i]? = some x) (hy : q[j]? = some y) : ((q.set i y).set j x).Perm q := by
  obtain ⟨h1,rfl⟩ := List.getElem?_eq_some_iff.1 hx
  obtain ⟨h2,rfl⟩ := List.getElem?_eq_some_iff.1 hy
  exact List.set_set_perm h1 h2
def SortedTo (o : List Version) (i : Nat) : Prop := ∀ (p r : Nat) (a b : Version),p < r → r < i → o[p]? = some a → o[r]? = some b → 0 ≤ b.S.cmp a.S
structure InsAt (q : List Version) (j i : Nat) : Prop where
  f : ∀ (p r : Nat) (a b : Version),p < r → r ≤ i → p ≠ j → r ≠ j → q[p]? = some a → q[r]? = some b → 0 ≤ b.S.cmp a.S
  s : ∀ (r : Nat) (a b : Version),j < r → r ≤ i → q[j]? = some a → q[r]? = some b → a.S.cmp b.S < 0
theorem InsAt.start {o : List Version} {i : Nat} (h : SortedTo o i) : InsAt o i i := ⟨fun p r a b h1 h2 _ h4 ha hb => h p r a b h1 (by omega) ha hb,fun r a b h1 h2 => by omega⟩
theorem InsAt.next {q : List Version} {j i : Nat} {x y : Version} (h : InsAt q j i) (hj : 1 ≤ j) (hx : q[j]? = some x) (hy : q[j - 1]? = some y) (hlt : x.S.cmp y.S < 0) : InsAt ((q.set j y).set (j - 1) x) (j - 1) i := by
  have hl := (List.getElem?_eq_some_iff.1 hx).1
  have e : ∀ k,k ≠ j → k ≠ j - 1 → ((q.set j y).set (j - 1) x)[k]? = q[k]? := fun k h1 h2 => by
    rw [List.getElem?_set_ne (by omega),List.getElem?_set_ne (by omega)]
  have ej : ((q.set j y).set (j - 1) x)[j]? = some y := by
    rw [List.getElem?_set_ne (by omega),List.getElem?_set_self hl]
  have ej1 : ((q.set j y).set (j - 1) x)[j - 1]? = some x := List.getElem?_set_self (by rw [List.length_set]; omega)
  refine ⟨fun p r a b h1 h2 h3 h4 ha hb => ?_,fun r a b h1 h2 ha hb => ?_⟩
  · by_cases c1 : p = j
    · subst c1
      rw [ej] at ha; cases ha
      rw [e r (by omega) (by omega)] at hb
      exact h.f (p - 1) r _ b (by omega) h2 (by omega) (by omega) hy hb
    · rw [e p c1 h3] at ha
      by_cases c2 : r = j
      · subst c2
        rw [ej] at hb; cases hb
        exact h.f p (r - 1) a _ (by omega) (by omega) c1 (by omega) ha hy
      · rw [e r c2 h4] at hb
        exact h.f p r a b h1 h2 c1 c2 ha hb
  · rw [ej1] at ha; cases ha
    by_cases c : r = j
    · subst c; rw [ej] at hb; cases hb; exact hlt
    · rw [e r c (by omega)] at hb
      exact h.s r _ b (by omega) h2 hx hb
theorem cmp_le_trans {a b c : Stamp} (h1 : 0 ≤ b.cmp a) (h2 : 0 ≤ c.cmp b) : 0 ≤ c.cmp a := by
  rcases Int.lt_or_eq_of_le h1 with h1 | h1
  · rcases Int.lt_or_eq_of_le h2 with h2 | h2
    · exact Int.le_of_lt (cmp_trans c b a h2 h1)
    · rw [(cmp_zero c b).1 h2.symm]; exact Int.le_of_lt h1
  · rw [← (cmp_zero b a).1 h1.symm]; exact h2
theorem InsAt.done {q : List Version} {j i : Nat} (h : InsAt q j i) (hji : j ≤ i) (he : j = 0 ∨ ∀ x y,q[j]? = some x → q[j - 1]? = some y → ¬ x.S.cmp y.S < 0) : SortedTo q (i + 1) := by
  intro p r a b h1 h2 ha hb
  by_cases c1 : p = j
  · subst c1
    have := h.s r a b h1 (by omega) ha hb
    have := cmp_neg b.S a.S; omega
  · by_cases c2 : r = j
    · subst c2
      rcases he with he | he
      · omega
      · obtain ⟨hl,-⟩ := List.getElem?_eq_some_iff.1 hb
        obtain ⟨y,hy⟩ : ∃ y,q[r - 1]? = some y := ⟨q[r - 1]'(by omega),by simp⟩
        have h3 := he b y hb hy
        by_cases c3 : p = r - 1
        · subst c3; rw [ha] at hy; cases hy; omega
        · exact cmp_le_trans (h.f p (r - 1) a y (by omega) (by omega) c1 (by omega) ha hy) (by omega)
    · exact h.f p r a b h1 (by omega) c1 c2 ha hb
theorem sort_ex (l : List Version) (hl : l.length ≤ 19) : ∃ o : List Version,X.call 127 [.sref (.inc 0) 0 l.length,.int .i64 0,.int .i64 l.length,.func 64 [] []] [.row 8 (l.map encVersion) true true] ⟨.tuple [],[.row 8 (o.map encVersion) true true],[]⟩ ∧ o.length = l.length ∧ o.Perm l ∧ SortedTo o o.length := by
  refine spec_ex ok Go.Proofs.Tryz.func127 ok127 ?_
  refine (have _w3 := wI64' ((0 : Int) + (1 : Int)); ?_)
  refine SatE.pLoop 1 (St.mk [(0,.sref
   (.inc 0) 0 l.length),(1,.int .i64 0),(2,.int .i64 (↑l.length : Int)),(3,AV.func (64 : FuncId) [] []),(8,.int .i64 (IntKind.i64.wrap (0 + 1)))] [(.inc 0,.row 8 (List.map encVersion l) true true)]) (by kernel_rfl) (fun (p : Nat × List Version) => ⟨[(0,.sref
   (.inc 0) 0 l.length),(1,.int .i64 0),(2,.int .i64 l.length),(3,.func 64 [] []),(8,.int .i64 p.1)],[(.inc 0,.row 8 (p.2.map encVersion) true true)]⟩) (fun p => 1 ≤ p.1 ∧ p.2.length = l.length ∧ p.2.Perm l ∧ SortedTo p.2 p.1) (fun p => l.length + 1 - p.1) (1,l) rfl ?_ ?_
  · exact ⟨by simp,rfl,List.Perm.refl _,fun p r a b h1 h2 => by omega⟩
  · rintro ⟨i,o⟩ hI again
    obtain ⟨i1,i2,i3,i4⟩ := hI
    simp only at i1 i2 i3 i4
    have hex : l.length ≤ i → SortedTo o o.length := fun h => fun p r a b h1 h2 ha hb => i4 p r a b h1 (by omega) ha hb
    refine (.k ((↑i : Int) < (↑l.length : Int)) (i < l.length) (by simp only [Int.ofNat_lt]) (fun _h13 => ?_)
     (fun _h13 => .r o ⟨(by (clear again; trivial)),⟨(by (clear again; trivial)),(by (clear again; (exact hex (by omega))))⟩⟩))
    refine SatE.pLoop 4 (St.mk [(0,.sref
     (.inc 0) 0 l.length),(1,.int .i64 0),(2,.int .i64 (↑l.length : Int)),(3,AV.func (64 : FuncId) [] []),(8,.int .i64 (↑i : Int)),(9,.int .i64 (↑i : Int))] [(.inc 0,.row 8 (List.map encVersion o) true true)]) (by kernel_rfl) (fun (p : Nat × List Version) => ⟨[(0,.sref
     (.inc 0) 0 l.length),(1,.int .i64 0),(2,.int .i64 l.length),(3,.func 64 [] []),(8,.int .i64 i),(9,.int .i64 p.1)],[(.inc 0,.row 8 (p.2.map encVersion) true true)]⟩) (fun p => p.1 ≤ i ∧ p.2.length = l.length ∧ p.2.Perm l ∧ InsAt p.2 p.1 i) (fun p => p.1) (i,o) rfl ?_ ?_
    · exact ⟨Nat.le_refl _,i2,i3,InsAt.start i4⟩
    · rintro ⟨j,q⟩ hJ again2
      obtain ⟨j1,j2,j3,j4⟩ := hJ
      simp only at j1 j2 j3 j4
      by_cases hj : j = 0
      · have hdone := j4.done j1 (.inl hj)
        refine (.k (0 < (↑j : Int)) (0 < j) (by simp only [ciLt]) (fun _h24 => False.elim (by omega)) (fun _h24 => .eF (0 < (↑j : Int)) (by simp only [ciLt]) _h24
         (.eF (0 < (↑j : Int)) (by simp only [ciLt]) _h24 (.eF (0 < (↑j : Int)) (by simp only [ciLt]) _h24 (.eF (0 < (↑j : Int)) (by simp only [ciLt]) _h24 (.eF (0 < (↑j : Int)) (by simp only [ciLt]) _h24
         (.eF (0 < (↑j : Int)) (by simp only [ciLt]) _h24 (.eF (0 < (↑j : Int)) (by simp only [ciLt]) _h24 (.eF (0 < (↑j : Int)) (by simp only [ciLt]) _h24 (.eF (0 < (↑j : Int)) (by simp only [ciLt]) _h24
         (.eF (0 < (↑j : Int)) (by simp only [ciLt]) _h24 (.eF (0 < (↑j : Int)) (by simp only [ciLt]) _h24 (.eF (0 < (↑j : Int)) (by simp only [ciLt]) _h24 (.F
         (have _w25 := wI64' ((↑i : Int) + (1 : Int)); .A (St.mk [(0,.sref
         (.inc 0) 0 l.length),(1,.int .i64 0),(2,.int .i64 (↑l.length : Int)),(3,AV.func (64 : FuncId) [] []),(8,.int .i64 (IntKind.i64.wrap ((↑i : Int) + 1)))] [(.inc 0,.row 8 (List.map encVersion q) true true)]) (by simp [_w25]) (again ((i + (1 : Nat),q)) ⟨(by dsimp only; omega),⟨(by dsimp only; omega),⟨(by show q.Perm l; omega),(by dsimp only; omega)⟩⟩⟩ (by dsimp only; omega)))))))))))))))))
      · obtain ⟨x,hx⟩ : ∃ x,q[j]? = some x := ⟨q[j]'(by omega),by simp⟩
        obtain ⟨y,hy⟩ : ∃ y,q[((j : Int) - 1).toNat]? = some y := ⟨q[((j : Int) - 1).toNat]'(by omega),by simp⟩
        have hjn : ((j : Int) - 1).toNat = j - 1 := by omega
        by_cases hlt : x.S.cmp y.S < 0
        · have hnext : InsAt ((q.set j y).set ((j : Int) - 1).toNat x) ((j : Int) - 1).toNat i := by
            rw [hjn]; rw [hjn] at hy; exact j4.next (by omega) hx hy hlt
          have hperm : ((q.set j y).set ((j : Int) - 1).toNat x).Perm l := (swap_perm hx hy).trans j3
          refine (.k (0 < (↑j : Int)) (0 < j) (by simp only [ciLt]) (fun _h31 => .et (0 < (↑j : Int)) (by simp only [ciLt]) _h31 (.et (0 < (↑j : Int)) (by simp only [ciLt]) _h31
           (.et (0 < (↑j : Int)) (by simp only [ciLt]) _h31 (.k (0 ≤ (↑j : Int) ∧ (↑j : Int) < (↑l.length : Int)) (0 ≤ j ∧ j < l.length) (by simp only [Int.ofNat_lt,ciLe])
           (fun _h32 => .et (0 < (↑j : Int)) (by simp only [ciLt]) _h31 (.eh encVersion hx (.et (0 < (↑j : Int)) (by simp only [ciLt]) _h31 (.et (0 < (↑j : Int)) (by simp only [ciLt]) _h31
           (.et (0 < (↑j : Int)) (by simp only [ciLt]) _h31 (.et (0 < (↑j : Int)) (by simp only [ciLt]) _h31
           (have _w33 := wI64' ((↑j : Int) - (1 : Int)); .k (0 ≤ IntKind.i64.wrap ((↑j : Int) - 1) ∧ IntKind.i64.wrap ((↑j : Int) - 1) < (↑l.length : Int)) (0 ≤ (↑j : Int) - 1 ∧ (↑j : Int) - 1 < (↑l.length : Int)) (by simp only [_w33])
           (fun _h34 => .et (0 < (↑j : Int)) (by simp only [ciLt]) _h31 (.eH encVersion q ((IntKind.i64.wrap ((↑j : Int) - 1)).toNat) (by simp only [_w33]) hy (.et (0 < (↑j : Int)) (by simp only [ciLt]) _h31
           (.c (@Tryz.c64 (x) (y)) (.et (0 < (↑j : Int)) (by simp only [ciLt]) _h31 (.et (0 < (↑j : Int)) (by simp only [ciLt]) _h31 (.it hlt
           (.et (0 ≤ IntKind.i64.wrap ((↑j : Int) - 1) ∧ IntKind.i64.wrap ((↑j : Int) - 1) < (↑l.length : Int)) (by simp only [_w33]) _h34
           (.eH encVersion q ((IntKind.i64.wrap ((↑j : Int) - 1)).toNat) (by simp only [_w33]) hy (.et (0 ≤ (↑j : Int) ∧ (↑j : Int) < (↑l.length : Int)) (by simp only [Int.ofNat_lt,ciLe]) _h32 (.eh encVersion hx
           (.et (0 ≤ (↑j : Int) ∧ (↑j : Int) < (↑l.length : Int)) (by simp only [Int.ofNat_lt,ciLe]) _h32 (.eh encVersion hx
           (.et (0 ≤ IntKind.i64.wrap ((↑j : Int) - 1) ∧ IntKind.i64.wrap ((↑j : Int) - 1) < (↑l.length : Int)) (by simp only [_w33]) _h34
           (SatE.pElemME (encVersion) (q.set (↑j : Int).toNat y) ((List.map encVersion q).set (↑j : Int).toNat (encVersion y)) ((IntKind.i64.wrap ((↑j : Int) - (1 : Int))).toNat) (((↑j : Int) - (1 : Int)).toNat) (by kernel_rfl) (by simp only [_w33]) (by simp) (by (clear again again2; (simp; omega)))
           (fun _x35 _hx36 => .A (St.mk [(0,.sref
           (.inc 0) 0 l.length),(1,.int .i64 0),(2,.int .i64 (↑l.length : Int)),(3,AV.func (64 : FuncId) [] []),(8,.int .i64 (↑i : Int)),(9,.int .i64 (IntKind.i64.wrap ((↑j : Int) - 1)))] [(.inc 0,.row 8 (((List.map encVersion q).set (↑j : Int).toNat (encVersion y)).set (IntKind.i64.wrap ((↑j : Int) - 1)).toNat (encVersion x)) true true)]) (by (clear again again2; (simp [_w33]; omega))) (again2 ((((↑j : Int) - (1 : Int)).toNat,(q.set (↑j : Int).toNat y).set ((↑j : Int) - (1 : Int)).toNat x)) ⟨(by dsimp only; omega),⟨(by dsimp only; (clear again again2; (simp; omega))),⟨(by dsimp only; assumption),(by dsimp only; assumption)⟩⟩⟩ (by dsimp only; omega))))))))))))))))))
           (fun _h34 => False.elim (by omega))))))))) (fun _h32 => False.elim (by omega)))))) (fun _h31 => False.elim (by omega)))
        · have hdone := j4.done j1 (.inr fun a b ha hb => by rw [hx] at ha; rw [← hjn,hy] at hb; cases ha; cases hb; exact hlt)
          refine (.k (0 < (↑j : Int)) (0 < j) (by simp only [ciLt]) (fun _h30 => .et (0 < (↑j : Int)) (by simp only [ciLt]) _h30 (.et (0 < (↑j : Int)) (by simp only [ciLt]) _h30
           (.et (0 < (↑j : Int)) (by simp only [ciLt]) _h30 (.k (0 ≤ (↑j : Int) ∧ (↑j : Int) < (↑l.length : Int)) (0 ≤ j ∧ j < l.length) (by simp only [Int.ofNat_lt,ciLe])
           (fun _h31 => .et (0 < (↑j : Int)) (by simp only [ciLt]) _h30 (.eh encVersion hx (.et (0 < (↑j : Int)) (by simp only [ciLt]) _h30 (.et (0 < (↑j : Int)) (by simp only [ciLt]) _h30
           (.et (0 < (↑j : Int)) (by simp only [ciLt]) _h30 (.et (0 < (↑j : Int)) (by simp only [ciLt]) _h30
           (have _w32 := wI64' ((↑j : Int) - (1 : Int)); .k (0 ≤ IntKind.i64.wrap ((↑j : Int) - 1) ∧ IntKind.i64.wrap ((↑j : Int) - 1) < (↑l.length : Int)) (0 ≤ (↑j : Int) - 1 ∧ (↑j : Int) - 1 < (↑l.length : Int)) (by simp only [_w32])
           (fun _h33 => .et (0 < (↑j : Int)) (by simp only [ciLt]) _h30 (.eH encVersion q ((IntKind.i64.wrap ((↑j : Int) - 1)).toNat) (by simp only [_w32]) hy (.et (0 < (↑j : Int)) (by simp only [ciLt]) _h30
           (.c (@Tryz.c64 (x) (y)) (.et (0 < (↑j : Int)) (by simp only [ciLt]) _h30 (.et (0 < (↑j : Int)) (by simp only [ciLt]) _h30 (.iF hlt (have _w34 := wI64' ((↑i : Int) + (1 : Int)); .A (St.mk [(0,.sref
           (.inc 0) 0 l.length),(1,.int .i64 0),(2,.int .i64 (↑l.length : Int)),(3,AV.func (64 : FuncId) [] []),(8,.int .i64 (IntKind.i64.wrap ((↑i : Int) + 1)))] [(.inc 0,.row 8 (List.map encVersion q) true true)]) (by simp [_w34]) (again ((i + (1 : Nat),q)) ⟨(by dsimp only; omega),⟨(by dsimp only; omega),⟨(by show q.Perm l; omega),(by dsimp only; omega)⟩⟩⟩ (by dsimp only; omega))))))))))
           (fun _h33 => False.elim (by omega))))))))) (fun _h31 => False.elim (by omega)))))) (fun _h30 => False.elim (by omega)))
end Go.Ab.Tryz
