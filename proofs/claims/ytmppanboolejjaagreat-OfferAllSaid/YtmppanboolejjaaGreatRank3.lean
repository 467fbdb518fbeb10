/- Packages seen, goal: as plain Lean. -/
import Derived.Test.YtmppanboolejjaaGreatRank2
import Derived.Test.YtmppanboolejjaaGreatHand
import Derived.Test.YtmppanboolejjaaGreatG3
namespace Go.Ab.Tryz
open Go
set_option maxRecDepth 100000
set_option maxHeartbeats 4000000
theorem c126 (a : Int) : X.call 126 [.int .i64 a] [] ⟨.bool false,[],[]⟩ := by
  refine spec_of ok Go.Proofs.Tryz.func126 ok126 ?_
  refine (.q (Res.mk (.bool !decide (a = a)) [] []) (by simp_all))
theorem c103 (a b : Int) : X.call 103 [.int .i64 a,.int .i64 b] [] ⟨.int .i64 (icmp a b),[],[]⟩ := by
  refine spec_of ok Go.Proofs.Tryz.func103 ok103 ?_
  refine (.c (@Tryz.c126 (a)) (.c (@Tryz.c126 (b)) (.F (.F (.i (a < b) (fun _h3 => .q (Res.mk (.int .i64 (-1 : Int)) [] []) (by (simp_all [icmp]; done))) (fun _h3 => .i (b < a) (fun _h4 => .q (Res.mk
   (.int .i64 1) [] []) (by (simp_all [icmp]; done))) (fun _h4 => .q (Res.mk (.int .i64 0) [] []) (by (simp_all [icmp]; omega)))))))))
theorem c102 (l : List Int) (hl : l.length ≤ 1000) : X.call 102 [.tree (l.map (AV.int .i64))] [] ⟨.int .i64 ((l.find? (fun x => decide (x ≠ 0))).getD 0),[],[]⟩ := by
  refine spec_of ok Go.Proofs.Tryz.func102 ok102 ?_
  refine ?_
  refine Sat.pLoop 3 (St.mk [(3,.int .i64 0),(6,.tree (List.map (AV.int IntKind.i64) l)),(7,.int .i64 (↑(List.map (AV.int IntKind.i64) l).length : Int)),(8,.int .i64 0)] []) (by kernel_rfl) (fun (k : Nat) => ⟨[(3,.int .i64 0),(6,.tree (l.map (AV.int .i64))),(7,.int .i64 l.length),(8,.int .i64 k)],[]⟩) (fun k => k ≤ l.length ∧ l.find? (fun x => decide (x ≠ 0)) = (l.drop k).find? (fun x => decide (x ≠ 0))) (fun k => l.length - k) 0 (by simp) ?_ ?_
  · simp
  · intro k hk again
    refine (.k ((↑k : Int) < (↑l.length : Int)) (k < l.length) (by simp only [Int.ofNat_lt]) (fun _h6 => .T (.em (AV.int IntKind.i64) l k ‹_› (fun _x7 _hx8 => .j (_x7 = 0) (fun _h9 => .q (Res.mk
     (.int .i64 _x7) [] []) (by (clear again; (rw [hk.2,drop_at ‹_›]; simp_all))))
     (fun _h9 => have _w10 := wI64' ((↑k : Int) + (1 : Int)); .A (St.mk [(3,.int .i64 0),(6,.tree (List.map (AV.int IntKind.i64) l)),(7,.int .i64 (↑l.length : Int)),(8,.int .i64 (IntKind.i64.wrap ((↑k : Int) + 1)))] []) (by simp [_w10]) (again (k + (1 : Nat)) (by (clear again; (rw [drop_at ‹_›] at hk; simp_all; omega))) (by omega))))))
     (fun _h6 => .q (Res.mk (.int .i64 0) [] []) (by (clear again; (rw [hk.2,List.drop_of_length_le (by omega)]; rfl)))))
theorem c61 (a b : Stamp) : X.call 61 [encStamp a,encStamp b] [] ⟨.int .i64 (a.cmp b),[],[]⟩ := by
  refine spec_of ok Go.Proofs.Tryz.func61 ok61 ?_
  refine (.c (@Tryz.c103 (a.L) (b.L)) (.c (@Tryz.c103 (a.R) (b.R)) (.c (@Tryz.c103 (a.N) (b.N)) (.c (@Tryz.c102 ([icmp a.L b.L,icmp a.R b.R,icmp a.N b.N]) (by show (3 : Nat) ≤ (1000 : Nat); omega))
   (.q (Res.mk (.int .i64 ((List.find? (fun (x : Int) => decide (x ≠ 0)) [icmp a.L b.L,icmp a.R b.R,icmp a.N b.N]).getD 0)) [] []) (by (simp only [Stamp.cmp,List.find?]; grind)))))))
theorem c119 (h : Head) (item : Int) : X.call 119 [encHead h,.int .i64 item] [] ⟨.int .i64 (icmp h.Item item),[],[]⟩ := by
  refine spec_of ok Go.Proofs.Tryz.func119 ok119 ?_
  refine (.c (@Tryz.c103 (h.Item) (item)) .r)
theorem icmp_lt (a b : Int) : icmp a b < 0 ↔ a < b := by unfold icmp; split <;> (try split) <;> omega
def foundAt (l : List Head) (pos : Nat) (item : Int) : Bool := match l[pos]? with | some x => decide (x.Item = item) | none => false
theorem c118 (l : List Head) (item : Int) (hp : l.Pairwise (fun a b => a.Item < b.Item)) (hl : l.length ≤ 100000) : X.call 118 [.tree (l.map encHead),.int .i64 item,.func 119 [] []] [] ⟨.tuple [.int .i64 (posOf l item),.bool (foundAt l (posOf l item) item)],[],[]⟩ := by
  have hpos := posOf_le l item
  have hs := posOf_iff (item := item) hp
  generalize posOf l item = pos at *
  refine spec_of ok Go.Proofs.Tryz.func118 ok118 ?_
  refine ?_
  refine Sat.pLoop 3 (St.mk [(0,.tree (List.map encHead l)),(1,.int .i64 item),(2,AV.func (119 : FuncId) [] []),(8,.int .i64 (↑(List.map encHead l).length : Int)),(9,.int .i64 0),(10,.int .i64 (↑(List.map encHead l).length : Int))] []) (by kernel_rfl) (fun (p : Nat × Nat) => ⟨[(0,.tree (l.map encHead)),(1,.int .i64 item),(2,.func 119 [] []),(8,.int .i64 l.length),(9,.int .i64 p.1),(10,.int .i64 p.2)],[]⟩) (fun p => p.1 ≤ pos ∧ pos ≤ p.2 ∧ p.2 ≤ l.length) (fun p => p.2 - p.1) (0,l.length) (by simp) ?_ ?_
  · exact ⟨by omega,hpos,by omega⟩
  · rintro ⟨i,j⟩ hI again
    obtain ⟨i1,i2,i3⟩ := hI
    simp only at i1 i2 i3
    refine (.k ((↑i : Int) < (↑j : Int)) (i < j) (by simp only [Int.ofNat_lt]) (fun _h15 => .T
     (have _w16 := wI64' ((↑i : Int) + (↑j : Int)); have _w17 := wU64' ((↑i : Int) + (↑j : Int)); have _w18 : ((↑i : Int) + (↑j : Int)).fdiv ((2 : Int) ^ (1 : Nat)) = ((↑i : Int) + (↑j : Int)) / (2 : Int) := (Int.fdiv_eq_ediv_of_nonneg _ (by decide)).trans rfl; have _w19 := wI64' (((↑i : Int) + (↑j : Int)) / (2 : Int)); .k (0 ≤ IntKind.i64.wrap ((IntKind.u64.wrap (IntKind.i64.wrap ((↑i : Int) + (↑j : Int)))).fdiv (2 ^ 1))) (0 ≤ ((↑i : Int) + (↑j : Int)) / 2) (by simp only [_w19,_w18,_w18,_w17,_w16])
     (fun _h20 => .eM encHead l ((IntKind.i64.wrap ((IntKind.u64.wrap (IntKind.i64.wrap ((↑i : Int) + (↑j : Int)))).fdiv (2 ^ 1))).toNat) ((((↑i : Int) + (↑j : Int)) / 2).toNat) (by simp only [_w19,_w18,_w18,_w17,_w16]) (by omega)
     (fun _x21 _hx22 => .c (@Tryz.c119 (_x21) (item)) (.i (icmp _x21.Item item < 0)
     (fun _h23 => have _w24 := wI64' (((↑i : Int) + (↑j : Int)) / (2 : Int) + (1 : Int)); .A (St.mk [(0,.tree (List.map encHead l)),(1,.int .i64 item),(2,AV.func (119 : FuncId) [] []),(8,.int .i64 (↑l.length : Int)),(9,.int .i64 (IntKind.i64.wrap (IntKind.i64.wrap ((IntKind.u64.wrap (IntKind.i64.wrap ((↑i : Int) + (↑j : Int)))).fdiv (2 ^ 1)) + 1))),(10,.int .i64 (↑j : Int))] []) (by (clear again; simp_all)) (again (((i + j) / (2 : Nat) + (1 : Nat),j)) ?_ (by (clear again; (dsimp only; omega)))))
     (fun _h23 => .A (St.mk [(0,.tree (List.map encHead l)),(1,.int .i64 item),(2,AV.func (119 : FuncId) [] []),(8,.int .i64 (↑l.length : Int)),(9,.int .i64 (↑i : Int)),(10,.int .i64 (IntKind.i64.wrap ((IntKind.u64.wrap (IntKind.i64.wrap ((↑i : Int) + (↑j : Int)))).fdiv (2 ^ 1))))] []) (by (clear again; simp_all)) (again ((i,(i + j) / (2 : Nat))) ?_ (by (clear again; (dsimp only; omega))))))))
     (fun _h20 => False.elim (by omega)))) (fun _h15 => .k ((↑i : Int) < (↑l.length : Int)) (i < l.length) (by simp only [Int.ofNat_lt])
     (fun _h25 => .et ((↑i : Int) < (↑l.length : Int)) (by simp only [Int.ofNat_lt]) _h25 (.et ((↑i : Int) < (↑l.length : Int)) (by simp only [Int.ofNat_lt]) _h25
     (.et ((↑i : Int) < (↑l.length : Int)) (by simp only [Int.ofNat_lt]) _h25 (.T (.em encHead l i ‹_› (fun _x26 _hx27 => .et ((↑i : Int) < (↑l.length : Int)) (by simp only [Int.ofNat_lt]) _h25
     (.et ((↑i : Int) < (↑l.length : Int)) (by simp only [Int.ofNat_lt]) _h25 (.et ((↑i : Int) < (↑l.length : Int)) (by simp only [Int.ofNat_lt]) _h25 (.c (@Tryz.c119 (_x26) (item))
     (.et ((↑i : Int) < (↑l.length : Int)) (by simp only [Int.ofNat_lt]) _h25 (.et ((↑i : Int) < (↑l.length : Int)) (by simp only [Int.ofNat_lt]) _h25
     (.q (Res.mk (AV.tuple [.int .i64 (↑i : Int),.bool (decide (icmp _x26.Item item = 0))]) [] []) ?_)))))))))))) (fun _h25 => .eF ((↑i : Int) < (↑l.length : Int)) (by simp only [Int.ofNat_lt]) _h25
     (.eF ((↑i : Int) < (↑l.length : Int)) (by simp only [Int.ofNat_lt]) _h25 (.eF ((↑i : Int) < (↑l.length : Int)) (by simp only [Int.ofNat_lt]) _h25
     (.eF ((↑i : Int) < (↑l.length : Int)) (by simp only [Int.ofNat_lt]) _h25 (.eF ((↑i : Int) < (↑l.length : Int)) (by simp only [Int.ofNat_lt]) _h25
     (.eF ((↑i : Int) < (↑l.length : Int)) (by simp only [Int.ofNat_lt]) _h25 (.eF ((↑i : Int) < (↑l.length : Int)) (by simp only [Int.ofNat_lt]) _h25
     (.eF ((↑i : Int) < (↑l.length : Int)) (by simp only [Int.ofNat_lt]) _h25 (.q (Res.mk (AV.tuple [.int .i64 (↑i : Int),.bool false]) [] []) ?_)))))))))))
    · have e := (hs _ _ _hx22).2 ((icmp_lt _ _).1 _h23)
      exact ⟨by simp only; omega,i2,i3⟩
    · have e : ¬ (((i : Int) + (j : Int)) / 2).toNat < pos := fun h => _h23 ((icmp_lt _ _).2 ((hs _ _ _hx22).1 h))
      exact ⟨i1,by simp only; omega,by simp only; omega⟩
    · obtain rfl : i = pos := by omega
      unfold foundAt
      rw [_hx27]
      simp only [icmp_zero]
    · obtain rfl : i = pos := by omega
      unfold foundAt
      rw [List.getElem?_eq_none (by omega)]
theorem c77 (l : List Head) (item : Int) (hp : l.Pairwise (fun a b => a.Item < b.Item)) (hl : l.length ≤ 100000) : X.call 77 [.tree (l.map encHead),.int .i64 item] [] ⟨.tuple [.int .i64 (posOf l item),.bool (foundAt l (posOf l item) item)],[],[]⟩ := by
  refine spec_of ok Go.Proofs.Tryz.func77 ok77 ?_
  refine (.c (@Tryz.c118 (l) (item) ‹_› ‹_›) .r)
theorem foundAt_some {l : List Head} {pos : Nat} {item : Int} (h : foundAt l pos item = true) : ∃ x,l[pos]? = some x ∧ x.Item = item := by
  unfold foundAt at h
  split at h
  · rename_i x hx; exact ⟨x,hx,by simpa using h⟩
  · cases h
theorem foundAt_none {l : List Head} {pos : Nat} {item : Int} (h : foundAt l pos item = false) : ∀ x,l[pos]? = some x → x.Item ≠ item := fun x hx => by
  unfold foundAt at h
  rw [hx] at h
  simpa using h
theorem c43 (l : List Head) (item : Int) (hp : l.Pairwise (fun a b => a.Item < b.Item)) (hl : l.length ≤ 100000) : X.call 43 [.tree (l.map encHead),.int .i64 item] [] ⟨encStamp (headAt l item),[],[]⟩ := by
  have hc := c77 l item hp hl
  cases hf : foundAt l (posOf l item) item with
  | true =>
    obtain ⟨x,hx,hi⟩ := foundAt_some hf
    rw [headAt_found hp hx hi]
    rw [hf] at hc
    generalize posOf l item = pos at *
    have hlt := (List.getElem?_eq_some_iff.1 hx).1
    refine spec_of ok Go.Proofs.Tryz.func43 ok43 ?_
    refine (.c (@hc) (.F (.T (.eh encHead hx .r))))
  | false =>
    rw [headAt_none hp (foundAt_none hf)]
    rw [hf] at hc
    refine spec_of ok Go.Proofs.Tryz.func43 ok43 ?_
    refine (.c (@hc) (.T .r))
end Go.Ab.Tryz
