/- slices.Delete and slices.Insert of this seat, walked; the environment for closed laws. Printed by mkhand.py. -/
import Derived.Test.YtmppanboolejjaaGreatAb
import Derived.Test.YtmppanboolejjaaGreatAbExt
import Derived.Lib.AppendZeros
import Derived.Lib.AppendZerosOnto
import Derived.Lib.Overlaps
import Derived.Laws.Externs
import Derived.Laws.IdiomCopy
import Derived.Shelf.Spec.SlicesInsert
import Derived.WalkKit
import Derived.LaidEql
import Derived.Stop.Asserts
import Derived.RowKitTokens
set_option maxRecDepth 100000
set_option maxHeartbeats 4000000
namespace Go.Ab
open Go Go.Proofs

end Go.Ab
namespace Go.Hand
open Go Go.Proofs Go.RowKit Go.Lib
-- A: at the end, room
theorem ins117A (i0 : TypeInfo) (b n c vb vc size : Nat) (tt : TypeId) (ys : List Value) (w : World) (hi0 : Go.Proofs.Tryz.prog.info? 50 = some i0) (hz0 : i0.size = 4) (hroom : n + 1 ≤ c) (hsh : w.shape? b = some (tt,size)) (hsz : (n + 1) * 4 ≤ size) (hf : ∀ q,q < size → w.frozen? ⟨b,q,none⟩ = false)
    (hyl : ys.length = 4) (hys : ∀ j v,ys[j]? = some v → w.cell? ⟨vb,j,none⟩ = some v) (h1 : ∀ u ∈ ys,u.oneCell' = true) :
    Calls Go.Proofs.Tryz.prog 117 #[.slice (some ⟨b,0,none⟩) n c,.int .i64 n,.slice (some ⟨vb,0,none⟩) 1 vc] w fun e w' => e = .returned (.slice (some ⟨b,0,none⟩) (n + 1) c) ∧ w' = w.setCells b (n * 4) ys := by
  have mixed : Go.Proofs.Tryz.prog.follows .mixedOrders = true := Go.Ab.Tryz.mixed
  have hnc : n ≤ c := by omega
  have hfc : (Builtin.firstCells i0.size 1 (.slice (some ⟨vb,0,none⟩) 1 vc)).run Go.Proofs.Tryz.prog w = .ok ys.toArray w := by
    rw [hz0]
    exact run_firstCells_some w 4 1 ⟨vb,0,none⟩ 1 vc ys (by rw [hyl]) (fun j v hj => by rw [Addr.add_lit,Nat.zero_add]; exact hys j v hj)
  have hrun := fun ty => Go.Ab.app_room (P := Go.Proofs.Tryz.prog) (w := w) (ty := ty) (off := 0) (len := n) (cap := c) (n := 1) (b := b) Go.Proofs.Tryz.underlying39 Go.Proofs.Tryz.underlying39 (.inl ⟨_,rfl⟩) hi0 (by simp [Builtin.lenOf]) hfc hroom
    (fun j hj => by rw [hz0]; exact Go.Ab.shape_cell hsh (by omega)) (fun j hj => by rw [hz0]; exact hf _ (by omega)) h1
  simp only [hz0,Nat.zero_add] at hrun
  go_enter Go.Proofs.Tryz.func117,Go.Proofs.Tryz.ntmps117
  go_wp2_with (at_builtin; refine Lib.wpList_append_run _ rfl _ _ _ _ rfl _ _ rfl rfl _ _ (hrun _) ?_)
  go_ret
  exact ⟨rfl,rfl⟩
-- B: at the end, no room
theorem ins117B (ba : Option Addr) (n c vb vc : Nat) (ys olds : List Value) (w : World) (i0 : TypeInfo) (z : Value) (hi0 : Go.Proofs.Tryz.prog.info? 50 = some i0) (hz0 : i0.size = 4) (hz : i0.zero = some z) (hb0 : 0 < i0.bytes) (hnc : n ≤ c) (hroom : c < n + 1) (hby : (n + 1) * i0.bytes ≤ 140737488355328)
    (hfo : (Builtin.firstCells 4 n (.slice ba n c)).run Go.Proofs.Tryz.prog w.drew = .ok olds.toArray w.drew)
    (hyl : ys.length = 4) (hys : ∀ j v,ys[j]? = some v → w.cell? ⟨vb,j,none⟩ = some v) :
    Calls Go.Proofs.Tryz.prog 117 #[.slice ba n c,.int .i64 n,.slice (some ⟨vb,0,none⟩) 1 vc] w fun e w' => e = .returned (.slice (some ⟨w.heap.size,0,none⟩) (n + 1) (grownCap w (n + 1) c 50)) ∧
      w' = w.drew.alloc (.cells (olds ++ ys ++ (Builtin.zeroCells z.cells (grownCap w (n + 1) c 50 - (n + 1))).toList).toArray 50) := by
  have mixed : Go.Proofs.Tryz.prog.follows .mixedOrders = true := Go.Ab.Tryz.mixed
  have hfc : (Builtin.firstCells i0.size 1 (.slice (some ⟨vb,0,none⟩) 1 vc)).run Go.Proofs.Tryz.prog w.drew = .ok ys.toArray w.drew := by
    rw [hz0]
    exact run_firstCells_some w.drew 4 1 ⟨vb,0,none⟩ 1 vc ys (by rw [hyl]) (fun j v hj => by rw [Addr.add_lit,Nat.zero_add]; exact hys j v hj)
  have hrun := fun ty => Go.Ab.app_grow (P := Go.Proofs.Tryz.prog) (w := w) (ty := ty) (len := n) (cap := c) (n := 1) (b := ba) (olds := olds) (news := ys) (yv := .slice (some ⟨vb,0,none⟩) 1 vc) Go.Proofs.Tryz.underlying39 Go.Proofs.Tryz.underlying39 (.inl ⟨_,rfl⟩) hi0 hz (by simp [Builtin.lenOf]) hfc (by rw [hz0]; exact hfo) hroom hby hb0
  generalize hG : grownCap w (n + 1) c 50 = G at hrun ⊢
  generalize hR : (olds ++ ys ++ (Builtin.zeroCells z.cells (G - (n + 1))).toList).toArray = ROW at hrun ⊢
  clear hG hR hfo hfc hz hby
  go_enter Go.Proofs.Tryz.func117,Go.Proofs.Tryz.ntmps117
  go_wp2_with (at_builtin; refine Lib.wpList_append_run _ rfl _ _ _ _ rfl _ _ rfl rfl _ _ (hrun _) ?_)
  go_ret
  exact ⟨rfl,rfl⟩
-- C: in between, room
theorem ins117C (b n c i vb vc size vsz : Nat) (tt vt : TypeId) (ys olds : List Value) (w : World) (i0 : TypeInfo) (hi0 : Go.Proofs.Tryz.prog.info? 50 = some i0) (hz0 : i0.size = 4) (hi : i < n) (hn47 : n + 1 ≤ 140737488355328) (hroom : n + 1 ≤ c) (hsh : w.shape? b = some (tt,size)) (hsz : (n + 1) * 4 ≤ size) (hf : ∀ q,w.frozen? ⟨b,q,none⟩ = false)
    (hsv : w.shape? vb = some (vt,vsz)) (hfv : ∀ q,w.frozen? ⟨vb,q,none⟩ = false) (hvb : vb ≠ b)
    (hyl : ys.length = 4) (hys : ∀ j v,ys[j]? = some v → w.cell? ⟨vb,j,none⟩ = some v) (h1 : ∀ u ∈ ys,u.oneCell' = true)
    (hol : olds.length = (n - i) * 4) (holds : ∀ j v,olds[j]? = some v → w.cell? ⟨b,i * 4 + j,none⟩ = some v) (h1o : ∀ u ∈ olds,u.oneCell' = true) :
    Calls Go.Proofs.Tryz.prog 117 #[.slice (some ⟨b,0,none⟩) n c,.int .i64 i,.slice (some ⟨vb,0,none⟩) 1 vc] w fun e w' => e = .returned (.slice (some ⟨b,0,none⟩) (n + 1) c) ∧
      w' = (w.drew.setCells b ((i + 1) * 4) olds).setCells b (i * 4) ys := by
  have mixed : Go.Proofs.Tryz.prog.follows .mixedOrders = true := Go.Ab.Tryz.mixed
  have hz2 : ¬ ((i : Int) = (n : Int)) := by omega
  have hsize : ∀ w,(Go.sizeOf 50).run Go.Proofs.Tryz.prog w = .ok 4 w := fun w => by simp [sizeOf,typeInfo,hi0,hz0]
  have hov : ∀ lb cb,(callFunc 134 #[.slice (some ⟨vb,0,none⟩) 1 vc,.slice (some ⟨b,(i + 1) * 4,none⟩) lb cb]).run Go.Proofs.Tryz.prog w = .ok (.value (.bool false)) w := fun lb cb => by
    rw [run_callFunc_extern Go.Proofs.Tryz.func134 (by kernel_rfl) (by kernel_rfl) (by kernel_rfl) (e := Extern.SlicesOverlaps.overlaps #[39,39] #[4]) (by kernel_rfl),
      Lib.run_overlaps_apart w 39 4 50 Go.Proofs.Tryz.underlying39 4 hsize ⟨vb,0,none⟩ ⟨b,(i + 1) * 4,none⟩ 1 vc lb cb hvb vt tt vsz size hsv hsh (by omega) (hfv _) (hfv _)]
    rfl
  have hw1 : IntKind.i64.wrap ((i : Int) + 1) = (i : Int) + 1 := by rw [IntKind.wrap_i64]; omega
  have hb1 : (0 : Int) ≤ (i : Int) + 1 := by omega
  have hin : i ≤ n := by omega
  have htn : ((i : Int) + 1).toNat = i + 1 := by omega
  have hb2 : ¬ (c = i + 1) := by omega
  have hb3 : (i : Int) ≤ (n : Int) + 1 := by omega
  have hb4 : ¬ (c = i) := by omega
  have hcp1 : ∀ ty dc sc,(Builtin.copy_ #[39,39] ty #[.slice (some ⟨b,(i + 1) * 4,none⟩) (n - i) dc,.slice (some ⟨b,i * 4,none⟩) (n + 1 - i) sc]).run Go.Proofs.Tryz.prog w.drew = .ok (goInt ((n - i : Nat) : Int)) (w.drew.setCells b ((i + 1) * 4) olds) := fun ty dc sc =>
    Go.Ab.run_copy_many (P := Go.Proofs.Tryz.prog) (w := w.drew) (n := n - i) (b := b) (off := (i + 1) * 4) (dl := n - i) (dc := dc) (sl := n + 1 - i) (sc := sc) (sa := ⟨b,i * 4,none⟩) (vs := olds) Go.Proofs.Tryz.underlying39 hi0 (by simp only [Nat.min_def]; split <;> omega) (by rw [hol,hz0]) (fun j v hj => by rw [Addr.add_lit]; exact holds j v hj)
      (fun j hj => Go.Ab.shape_cell (w := w.drew) hsh (by omega)) (fun j hj => hf _) h1o
  have hcp2 : ∀ ty dc,(Builtin.copy_ #[39,39] ty #[.slice (some ⟨b,i * 4,none⟩) (n + 1 - i) dc,.slice (some ⟨vb,0,none⟩) 1 vc]).run Go.Proofs.Tryz.prog (w.drew.setCells b ((i + 1) * 4) olds) = .ok (goInt 1) ((w.drew.setCells b ((i + 1) * 4) olds).setCells b (i * 4) ys) := fun ty dc =>
    Go.Ab.run_copy_many (P := Go.Proofs.Tryz.prog) (w := w.drew.setCells b ((i + 1) * 4) olds) (n := 1) (b := b) (off := i * 4) (dl := n + 1 - i) (dc := dc) (sl := 1) (sc := vc) (sa := ⟨vb,0,none⟩) (vs := ys) Go.Proofs.Tryz.underlying39 hi0 (by simp only [Nat.min_def]; split <;> omega) (by rw [hyl,hz0]) (fun j v hj => by rw [Addr.add_lit,Nat.zero_add,World.cell?_setCells_out _ _ _ _ _ (fun h _ => absurd h hvb)]; exact hys j v hj)
      (fun j hj => Go.Ab.shape_cell (by rw [Go.Ab.setCells_shape]; exact hsh) (by omega)) (fun j hj => by rw [World.frozen?_setCells]; exact hf _) h1
  clear hsize hys holds hsh hsv hf hfv
  go_enter Go.Proofs.Tryz.func117,Go.Proofs.Tryz.ntmps117
  go_wp2_with (simp only [hov])

  go_region_law_o (refine step_copy_runI rfl _ _ 39 39 rfl _ _ (by simp [Act.eval,Act.put]) (by simp [Act.eval,Act.put]) (hcp1 _ _ _) ?_)
  go_wp2_with (at_builtin; refine wpList_copy_runI _ rfl _ _ 39 39 rfl _ _ rfl rfl (hcp2 _ _) ?_)
  go_ret
  first | exact ⟨rfl,rfl⟩
-- D: in between, no room
theorem ins117D (b n c i vb vc : Nat) (ys olds front : List Value) (w : World) (i0 : TypeInfo) (z : Value) (hi0 : Go.Proofs.Tryz.prog.info? 50 = some i0) (hz0 : i0.size = 4) (hz : i0.zero = some z) (hzs : z.cells.size = 4) (hb0 : 0 < i0.bytes) (hi : i < n) (hnc : n ≤ c) (hroom : c < n + 1) (hby : (n + 1) * i0.bytes ≤ 140737488355328)
    (hbw : b < w.heap.size) (hvw : vb < w.heap.size)
    (hfl : front.length = i * 4) (hfront : ∀ j v,front[j]? = some v → w.cell? ⟨b,j,none⟩ = some v)
    (hyl : ys.length = 4) (hys : ∀ j v,ys[j]? = some v → w.cell? ⟨vb,j,none⟩ = some v) (h1 : ∀ u ∈ ys,u.oneCell' = true)
    (hol : olds.length = (n - i) * 4) (holds : ∀ j v,olds[j]? = some v → w.cell? ⟨b,i * 4 + j,none⟩ = some v) (h1o : ∀ u ∈ olds,u.oneCell' = true) :
    Calls Go.Proofs.Tryz.prog 117 #[.slice (some ⟨b,0,none⟩) n c,.int .i64 i,.slice (some ⟨vb,0,none⟩) 1 vc] w fun e w' => ∃ ROW : Array Value,ROW.size = grownCap w (n + 1) c 50 * 4 ∧ ROW.toList.take (i * 4) = front ∧
      e = .returned (.slice (some ⟨w.heap.size,0,none⟩) (n + 1) (grownCap w (n + 1) c 50)) ∧
      w' = (((w.drew.alloc (.cells ROW 50)).setCells w.heap.size (i * 4) ys).drew).setCells w.heap.size ((i + 1) * 4) olds := by
  have mixed : Go.Proofs.Tryz.prog.follows .mixedOrders = true := Go.Ab.Tryz.mixed
  have hz2 : ¬ ((i : Int) = (n : Int)) := by omega
  have hz3 : (c : Int) < (n : Int) + 1 := by omega
  have hkk : (n : Int) + 1 - (i : Int) = ((n + 1 - i : Nat) : Int) := by omega
  have hik : i + (n + 1 - i) = n + 1 := by omega
  have hold : (Builtin.firstCells i0.size i (.slice (some ⟨b,0,none⟩) i c)).run Go.Proofs.Tryz.prog w.drew = .ok front.toArray w.drew := by
    rw [hz0]
    exact run_firstCells_some w.drew 4 i ⟨b,0,none⟩ i c front hfl (fun j v hj => by rw [Addr.add_lit,Nat.zero_add]; exact hfront j v hj)
  have hk48 : (n + 1 - i) * i0.bytes ≤ 281474976710656 := by
    have : (n + 1 - i) * i0.bytes ≤ (n + 1) * i0.bytes := Nat.mul_le_mul_right _ (by omega)
    omega
  have hn47 : n + 1 ≤ 140737488355328 := by
    have : (n + 1) * 1 ≤ (n + 1) * i0.bytes := Nat.mul_le_mul_left _ hb0
    omega
  have hrz : ∀ ty,(Builtin.append_ #[39,3] ty #[.slice (some ⟨b,0,none⟩) i c,.int .i64 ((n : Int) + 1 - (i : Int))]).run Go.Proofs.Tryz.prog w =
      .ok (.slice (some ⟨w.heap.size,0,none⟩) (n + 1) (grownCap w (n + 1) c 50)) (w.drew.alloc (.cells (front.toArray ++ Builtin.zeroCells z.cells (n + 1 - i) ++ Builtin.zeroCells z.cells (grownCap w (n + 1) c 50 - (n + 1))) 50)) := fun ty => by
    have h := Lib.run_append_grow_zeros w 39 3 ty 50 i0 _ .i64 .i64 Go.Proofs.Tryz.underlying39 Go.Proofs.Tryz.underlying3 hi0 hz (some ⟨b,0,none⟩) i c front hold (n + 1 - i) (by omega) (by omega) (by omega) (by omega) hk48 (by rw [hik]; exact growslice_fits hroom hby)
    rw [hik] at h
    rw [hkk]
    exact h
  obtain ⟨G,hG⟩ : ∃ G,G = grownCap w (n + 1) c 50 := ⟨_,rfl⟩
  obtain ⟨ROW,hROW⟩ : ∃ ROW : Array Value,ROW = front.toArray ++ Builtin.zeroCells z.cells (n + 1 - i) ++ Builtin.zeroCells z.cells (G - (n + 1)) := ⟨_,rfl⟩
  rw [← hG] at hrz ⊢
  rw [← hROW] at hrz
  have hGn : n + 1 ≤ G := by rw [hG]; exact grownCap_ge w _ _ _
  have hRl : ROW.size = G * 4 := by
    rw [hROW]
    simp only [Array.size_append,List.size_toArray,hfl,Builtin.zeroCells,Array.size_map,Array.size_range,hzs]
    omega
  have hRt : ROW.toList.take (i * 4) = front := by
    rw [hROW]
    simp only [Array.toList_append,List.append_assoc]
    rw [← hfl,List.take_left']
    rfl
  obtain ⟨W1,hW1⟩ : ∃ W1,W1 = w.drew.alloc (.cells ROW 50) := ⟨_,rfl⟩
  rw [← hW1] at hrz
  have hN : ∀ j,j < (n + 1) * 4 → (W1.cell? ⟨w.heap.size,j,none⟩).isSome = true := fun j hj => by
    rw [hW1,World.cell?_alloc_at (w := w.drew) ROW _ w.heap.size j rfl,Array.getElem?_eq_getElem (by omega)]; rfl
  have hNf : ∀ j,W1.frozen? ⟨w.heap.size,j,none⟩ = false := fun j => by rw [hW1]; exact World.frozen?_alloc_at (w := w.drew) ROW _ w.heap.size j rfl
  have hOb : ∀ j v,w.cell? ⟨b,j,none⟩ = some v → W1.cell? ⟨b,j,none⟩ = some v := fun j v h => by rw [hW1,World.cell?_alloc_past (w := w.drew) _ b j hbw]; exact h
  have hOv : ∀ j v,w.cell? ⟨vb,j,none⟩ = some v → W1.cell? ⟨vb,j,none⟩ = some v := fun j v h => by rw [hW1,World.cell?_alloc_past (w := w.drew) _ vb j hvw]; exact h
  have hbN : b ≠ w.heap.size := by omega
  have hcpA : ∀ (W : World),(∀ x,W.cell? x = W1.cell? x) → (∀ x,W.frozen? x = W1.frozen? x) → ∀ ty dc,(Builtin.copy_ #[39,39] ty #[.slice (some ⟨w.heap.size,i * 4,none⟩) (n + 1 - i) dc,.slice (some ⟨vb,0,none⟩) 1 vc]).run Go.Proofs.Tryz.prog W = .ok (goInt 1) (W.setCells w.heap.size (i * 4) ys) := fun W hWc hWf ty dc =>
    Go.Ab.run_copy_many (P := Go.Proofs.Tryz.prog) (w := W) (n := 1) (b := w.heap.size) (off := i * 4) (dl := n + 1 - i) (dc := dc) (sl := 1) (sc := vc) (sa := ⟨vb,0,none⟩) (vs := ys) Go.Proofs.Tryz.underlying39 hi0 (by simp only [Nat.min_def]; split <;> omega) (by rw [hyl,hz0])
      (fun j v hj => by rw [Addr.add_lit,Nat.zero_add,hWc]; exact hOv _ v (hys j v hj)) (fun j hj => by rw [hWc]; exact hN _ (by omega)) (fun j hj => by rw [hWf]; exact hNf _) h1
  have hcpB : ∀ (W : World),(∀ x,W.cell? x = (W1.setCells w.heap.size (i * 4) ys).cell? x) → (∀ x,W.frozen? x = (W1.setCells w.heap.size (i * 4) ys).frozen? x) → ∀ ty dc sc,(Builtin.copy_ #[39,39] ty #[.slice (some ⟨w.heap.size,(i + 1) * 4,none⟩) (n - i) dc,.slice (some ⟨b,i * 4,none⟩) (n - i) sc]).run Go.Proofs.Tryz.prog W = .ok (goInt ((n - i : Nat) : Int)) (W.setCells w.heap.size ((i + 1) * 4) olds) := fun W hWc hWf ty dc sc =>
    Go.Ab.run_copy_many (P := Go.Proofs.Tryz.prog) (w := W) (n := n - i) (b := w.heap.size) (off := (i + 1) * 4) (dl := n - i) (dc := dc) (sl := n - i) (sc := sc) (sa := ⟨b,i * 4,none⟩) (vs := olds) Go.Proofs.Tryz.underlying39 hi0 (by simp only [Nat.min_def]; split <;> omega) (by rw [hol,hz0])
      (fun j v hj => by rw [Addr.add_lit,hWc,World.cell?_setCells_out _ _ _ _ _ (fun h _ => absurd h hbN)]; exact hOb _ v (holds j v hj))
      (fun j hj => by rw [hWc]; exact isSome_setCells _ _ _ _ (fun t ht => hN _ (by omega)) _ (hN _ (by omega)))
      (fun j hj => by rw [hWf,World.frozen?_setCells]; exact hNf _) h1o
  have hGi : ¬ (G = i) := by omega
  have hGim : ¬ (G = i + 1) := by omega
  have hci : ¬ (c = i) := by omega
  refine Calls.mono (R := fun e w' => e = .returned (.slice (some ⟨w.heap.size,0,none⟩) (n + 1) G) ∧ w' = (((w.drew.alloc (.cells ROW 50)).setCells w.heap.size (i * 4) ys).drew).setCells w.heap.size ((i + 1) * 4) olds) ?_ (fun e w' h => ⟨ROW,hRl,hRt,h.1,h.2⟩)
  subst hW1
  have hE1 : ∀ x,((w.alloc (.cells ROW 50)).drew).cell? x = (w.drew.alloc (.cells ROW 50)).cell? x := fun x => rfl
  have hE2 : ∀ x,((w.alloc (.cells ROW 50)).drew).frozen? x = (w.drew.alloc (.cells ROW 50)).frozen? x := fun x => rfl
  have hF1 : ∀ x,(((w.alloc (.cells ROW 50)).drew.setCells w.heap.size (i * 4) ys).drew).cell? x = ((w.drew.alloc (.cells ROW 50)).setCells w.heap.size (i * 4) ys).cell? x := fun x => rfl
  have hF2 : ∀ x,(((w.alloc (.cells ROW 50)).drew.setCells w.heap.size (i * 4) ys).drew).frozen? x = ((w.drew.alloc (.cells ROW 50)).setCells w.heap.size (i * 4) ys).frozen? x := fun x => rfl
  have hw1 : IntKind.i64.wrap ((i : Int) + 1) = (i : Int) + 1 := by
    rw [IntKind.wrap_i64]; omega
  have hb1 : (0 : Int) ≤ (i : Int) + 1 := by omega
  have hin : i ≤ n := by omega
  have htn : ((i : Int) + 1).toNat = i + 1 := by omega
  have hb3 : (i : Int) ≤ (n : Int) := by omega
  clear hkk hik hold hROW hG hRl hRt hN hNf hOb hOv hys hfront holds hby hz
  go_enter Go.Proofs.Tryz.func117,Go.Proofs.Tryz.ntmps117
  go_wp2_with (first
    | (at_builtin; refine Lib.wpList_append_run _ rfl _ _ _ _ rfl _ _ rfl rfl _ _ (hrz _) ?_)
    | (at_builtin; refine wpList_copy_runI _ rfl _ _ 39 39 rfl _ _ rfl rfl (hcpA _ hE1 hE2 _ _) ?_)
    | (at_builtin; refine wpList_copy_runI _ rfl _ _ 39 39 rfl _ _ rfl rfl (hcpB _ (fun _ => rfl) (fun _ => rfl) _ _ _) ?_))
  go_region_law_o (refine step_copy_runI rfl _ _ 39 39 rfl (.slice (some ⟨w.heap.size,(i + 1) * 4,none⟩) (n - i) (G - (i + 1))) (.slice (some ⟨b,i * 4,none⟩) (n - i) (c - i)) (by simp [Act.eval,Act.put]) (by simp [Act.eval,Act.put]) (hcpB _ hF1 hF2 3 (G - (i + 1)) (c - i)) ?_)
  go_wp2
  go_ret
  exact ⟨rfl,rfl⟩
theorem ins117 : Go.Ab.InsCalls Go.Proofs.Tryz.prog 117 4 50 32 := by
  obtain ⟨i0,z,hi0,hz0,hb0,hz,hzs⟩ := Go.Ab.zeroFits_ok (Go.Ab.tabB_ok Go.Ab.Tryz.tabOk) (cfg := Go.Ab.Tryz.cfg) rfl (e := 50) rfl rfl
  have hz0 : i0.size = 4 := hz0
  have hb0 : i0.bytes = 32 := hb0
  have hzs : z.cells.size = 4 := hzs
  refine ⟨?_, ?_, ?_, ?_⟩
  · intro b n c vb vc size tt ys w hroom hsh hsz hf hyl hys h1
    exact ins117A i0 b n c vb vc size tt ys w hi0 hz0 hroom hsh hsz (fun q _ => hf q) hyl hys h1
  · intro ba n c vb vc ys olds w hnc hroom hby hfo hol hyl hys
    refine Calls.mono (ins117B ba n c vb vc ys olds w i0 z hi0 hz0 hz (by omega) hnc hroom (by rw [hb0]; exact hby) hfo hyl hys) fun x w' h => ?_
    refine ⟨_,_,grownCap_ge w (n + 1) c 50, ?_, ?_,h.1,h.2⟩
    · have := grownCap_ge w (n + 1) c 50
      simp only [List.size_toArray,List.length_append,Array.length_toList,hol,hyl,Builtin.zeroCells,Array.size_map,Array.size_range,hzs]
      omega
    · rw [List.take_left']
      rw [List.length_append,hol,hyl]
      omega
  · intro b n c i vb vc size vsz tt vt ys olds w hi hn hroom hsh hsz hf hsv hfv hvb hyl hys h1 hol holds h1o
    exact ins117C b n c i vb vc size vsz tt vt ys olds w i0 hi0 hz0 hi hn hroom hsh hsz hf hsv hfv hvb hyl hys h1 hol holds h1o
  · intro b n c i vb vc ys olds front w hi hnc hroom hby hbw hvw hfl hfront hyl hys h1 hol holds h1o
    refine Calls.mono (ins117D b n c i vb vc ys olds front w i0 z hi0 hz0 hz hzs (by omega) hi hnc hroom (by rw [hb0]; exact hby) hbw hvw hfl hfront hyl hys h1 hol holds h1o) fun x w' h => ?_
    obtain ⟨ROW,h1,h2,h3,h4⟩ := h
    exact ⟨ROW,_,grownCap_ge w (n + 1) c 50,h1,h2,h3,h4⟩
end Go.Hand
namespace Go.Ab
open Go Go.Proofs
theorem insert117 (xs : List AV) (y : AV) (i : Nat) (hi : i ≤ xs.length) (hby : (xs.length + 1) * 32 ≤ 140737488355328) : SoundCall Go.Proofs.Tryz.prog Tryz.phi 117 [.sref (.inc 0) 0 xs.length,.int .i64 i,.sref (.inc 1) 0 1] [.row 4 xs true true,.row 4 [y] true true] ⟨.sref (.out 0) 0 (xs.length + 1),[.gone,.gone],[.row 4 (xs.take i ++ y :: xs.drop i) true true]⟩ :=
  insert_sound Go.Hand.ins117 Go.Proofs.Tryz.func117 (by kernel_rfl) (by kernel_rfl) (by decide) (by decide) hi hby
def Tryz.meths : List (Nat × String × Nat × Bool) := []
theorem Tryz.methsOk : MethTab Go.Proofs.Tryz.prog Tryz.meths := trivial
def Tryz.tas : List (Nat × Nat × Bool) := []
theorem Tryz.tasOk : taB Go.Proofs.Tryz.prog Tryz.tas = true := by kernel_rfl
noncomputable def Tryz.E : Env := { cfg := Tryz.cfg,fn := look1 Tryz.fns,meth := lookM Tryz.meths,ta := look2o Tryz.tas,known := orK (kIns 117 4 32) (fun _ _ _ => none) }
theorem Tryz.envOk : EnvOk Go.Proofs.Tryz.prog Tryz.phi Tryz.X Tryz.E := Go.Ab.envOk Tryz.ok rfl rfl rfl Tryz.fnsOk (fun _ _ _ _ h => MethTab.get Tryz.methsOk h) (fun _ _ _ h => taB_ok Tryz.tasOk h) (orK_ok (fun _ _ _ _ h => kIns_ok insert117 h) (fun _ _ _ _ h => by cases h))
end Go.Ab
