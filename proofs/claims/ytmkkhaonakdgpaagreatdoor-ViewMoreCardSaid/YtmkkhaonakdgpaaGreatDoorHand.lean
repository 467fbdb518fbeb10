/- slices.Delete and slices.Insert of this seat, walked; the environment for closed laws. Printed by mkhand.py. -/
import Derived.Test.YtmkkhaonakdgpaaGreatDoorAb
import Derived.Test.YtmkkhaonakdgpaaGreatDoorAbExt
import Derived.Lib.AppendZeros
import Derived.Lib.AppendZerosOnto
import Derived.Lib.Overlaps
import Derived.Laws.Externs
import Derived.Laws.IdiomCopy
import Derived.Shelf.Spec.SlicesInsert
import Derived.WalkKit
import Derived.LaidEql
import Derived.Stop.Asserts
import Derived.RowKitTokens
set_option maxRecDepth 100000
set_option maxHeartbeats 4000000
namespace Go.Ab
open Go Go.Proofs

end Go.Ab
namespace Go.Hand
open Go Go.Proofs Go.RowKit Go.Lib
-- A: at the end, room
theorem ins227A (i0 : TypeInfo) (b n c vb vc size : Nat) (tt : TypeId) (ys : List Value) (w : World) (hi0 : Go.Proofs.Tryz.prog.info? 54 = some i0) (hz0 : i0.size = 8) (hroom : n + 1 ≤ c) (hsh : w.shape? b = some (tt, size)) (hsz : (n + 1) * 8 ≤ size) (hf : ∀ q, q < size → w.frozen? ⟨b, q, none⟩ = false)
    (hyl : ys.length = 8) (hys : ∀ j v, ys[j]? = some v → w.cell? ⟨vb, j, none⟩ = some v) (h1 : ∀ u ∈ ys, u.oneCell' = true) :
    Calls Go.Proofs.Tryz.prog 227 #[.slice (some ⟨b, 0, none⟩) n c, .int .i64 n, .slice (some ⟨vb, 0, none⟩) 1 vc] w fun e w' => e = .returned (.slice (some ⟨b, 0, none⟩) (n + 1) c) ∧ w' = w.setCells b (n * 8) ys := by
  have mixed : Go.Proofs.Tryz.prog.follows .mixedOrders = true := Go.Ab.Tryz.mixed
  have hnc : n ≤ c := by omega
  have hfc : (Builtin.firstCells i0.size 1 (.slice (some ⟨vb, 0, none⟩) 1 vc)).run Go.Proofs.Tryz.prog w = .ok ys.toArray w := by
    rw [hz0]
    exact run_firstCells_some w 8 1 ⟨vb, 0, none⟩ 1 vc ys (by rw [hyl]) (fun j v hj => by rw [Addr.add_lit, Nat.zero_add]; exact hys j v hj)
  have hrun := fun ty => Go.Ab.app_room (P := Go.Proofs.Tryz.prog) (w := w) (ty := ty) (off := 0) (len := n) (cap := c) (n := 1) (b := b) Go.Proofs.Tryz.underlying49 Go.Proofs.Tryz.underlying49 (.inl ⟨_, rfl⟩) hi0 (by simp [Builtin.lenOf]) hfc hroom
    (fun j hj => by rw [hz0]; exact Go.Ab.shape_cell hsh (by omega)) (fun j hj => by rw [hz0]; exact hf _ (by omega)) h1
  simp only [hz0, Nat.zero_add] at hrun
  go_enter Go.Proofs.Tryz.func227, Go.Proofs.Tryz.ntmps227
  go_wp2_with (at_builtin; refine Lib.wpList_append_run _ rfl _ _ _ _ rfl _ _ rfl rfl _ _ (hrun _) ?_)
  go_ret
  exact ⟨rfl, rfl⟩
-- B: at the end, no room
theorem ins227B (ba : Option Addr) (n c vb vc : Nat) (ys olds : List Value) (w : World) (i0 : TypeInfo) (z : Value) (hi0 : Go.Proofs.Tryz.prog.info? 54 = some i0) (hz0 : i0.size = 8) (hz : i0.zero = some z) (hb0 : 0 < i0.bytes) (hnc : n ≤ c) (hroom : c < n + 1) (hby : (n + 1) * i0.bytes ≤ 140737488355328)
    (hfo : (Builtin.firstCells 8 n (.slice ba n c)).run Go.Proofs.Tryz.prog w.drew = .ok olds.toArray w.drew)
    (hyl : ys.length = 8) (hys : ∀ j v, ys[j]? = some v → w.cell? ⟨vb, j, none⟩ = some v) :
    Calls Go.Proofs.Tryz.prog 227 #[.slice ba n c, .int .i64 n, .slice (some ⟨vb, 0, none⟩) 1 vc] w fun e w' => e = .returned (.slice (some ⟨w.heap.size, 0, none⟩) (n + 1) (grownCap w (n + 1) c 54)) ∧
      w' = w.drew.alloc (.cells (olds ++ ys ++ (Builtin.zeroCells z.cells (grownCap w (n + 1) c 54 - (n + 1))).toList).toArray 54) := by
  have mixed : Go.Proofs.Tryz.prog.follows .mixedOrders = true := Go.Ab.Tryz.mixed
  have hfc : (Builtin.firstCells i0.size 1 (.slice (some ⟨vb, 0, none⟩) 1 vc)).run Go.Proofs.Tryz.prog w.drew = .ok ys.toArray w.drew := by
    rw [hz0]
    exact run_firstCells_some w.drew 8 1 ⟨vb, 0, none⟩ 1 vc ys (by rw [hyl]) (fun j v hj => by rw [Addr.add_lit, Nat.zero_add]; exact hys j v hj)
  have hrun := fun ty => Go.Ab.app_grow (P := Go.Proofs.Tryz.prog) (w := w) (ty := ty) (len := n) (cap := c) (n := 1) (b := ba) (olds := olds) (news := ys) (yv := .slice (some ⟨vb, 0, none⟩) 1 vc) Go.Proofs.Tryz.underlying49 Go.Proofs.Tryz.underlying49 (.inl ⟨_, rfl⟩) hi0 hz (by simp [Builtin.lenOf]) hfc (by rw [hz0]; exact hfo) hroom hby hb0
  generalize hG : grownCap w (n + 1) c 54 = G at hrun ⊢
  generalize hR : (olds ++ ys ++ (Builtin.zeroCells z.cells (G - (n + 1))).toList).toArray = ROW at hrun ⊢
  clear hG hR hfo hfc hz hby
  go_enter Go.Proofs.Tryz.func227, Go.Proofs.Tryz.ntmps227
  go_wp2_with (at_builtin; refine Lib.wpList_append_run _ rfl _ _ _ _ rfl _ _ rfl rfl _ _ (hrun _) ?_)
  go_ret
  exact ⟨rfl, rfl⟩
-- C: in between, room
theorem ins227C (b n c i vb vc size vsz : Nat) (tt vt : TypeId) (ys olds : List Value) (w : World) (i0 : TypeInfo) (hi0 : Go.Proofs.Tryz.prog.info? 54 = some i0) (hz0 : i0.size = 8) (hi : i < n) (hn47 : n + 1 ≤ 140737488355328) (hroom : n + 1 ≤ c) (hsh : w.shape? b = some (tt, size)) (hsz : (n + 1) * 8 ≤ size) (hf : ∀ q, w.frozen? ⟨b, q, none⟩ = false)
    (hsv : w.shape? vb = some (vt, vsz)) (hfv : ∀ q, w.frozen? ⟨vb, q, none⟩ = false) (hvb : vb ≠ b)
    (hyl : ys.length = 8) (hys : ∀ j v, ys[j]? = some v → w.cell? ⟨vb, j, none⟩ = some v) (h1 : ∀ u ∈ ys, u.oneCell' = true)
    (hol : olds.length = (n - i) * 8) (holds : ∀ j v, olds[j]? = some v → w.cell? ⟨b, i * 8 + j, none⟩ = some v) (h1o : ∀ u ∈ olds, u.oneCell' = true) :
    Calls Go.Proofs.Tryz.prog 227 #[.slice (some ⟨b, 0, none⟩) n c, .int .i64 i, .slice (some ⟨vb, 0, none⟩) 1 vc] w fun e w' => e = .returned (.slice (some ⟨b, 0, none⟩) (n + 1) c) ∧
      w' = (w.drew.setCells b ((i + 1) * 8) olds).setCells b (i * 8) ys := by
  have mixed : Go.Proofs.Tryz.prog.follows .mixedOrders = true := Go.Ab.Tryz.mixed
  have hz2 : ¬ ((i : Int) = (n : Int)) := by omega
  have hsize : ∀ w, (Go.sizeOf 54).run Go.Proofs.Tryz.prog w = .ok 8 w := fun w => by simp [sizeOf, typeInfo, hi0, hz0]
  have hov : ∀ lb cb, (callFunc 240 #[.slice (some ⟨vb, 0, none⟩) 1 vc, .slice (some ⟨b, (i + 1) * 8, none⟩) lb cb]).run Go.Proofs.Tryz.prog w = .ok (.value (.bool false)) w := fun lb cb => by
    rw [run_callFunc_extern Go.Proofs.Tryz.func240 (by kernel_rfl) (by kernel_rfl) (by kernel_rfl) (e := Extern.SlicesOverlaps.overlaps #[49, 49] #[4]) (by kernel_rfl),
      Lib.run_overlaps_apart w 49 4 54 Go.Proofs.Tryz.underlying49 8 hsize ⟨vb, 0, none⟩ ⟨b, (i + 1) * 8, none⟩ 1 vc lb cb hvb vt tt vsz size hsv hsh (by omega) (hfv _) (hfv _)]
    rfl
  have hw1 : IntKind.i64.wrap ((i : Int) + 1) = (i : Int) + 1 := by rw [IntKind.wrap_i64]; omega
  have hb1 : (0 : Int) ≤ (i : Int) + 1 := by omega
  have hin : i ≤ n := by omega
  have htn : ((i : Int) + 1).toNat = i + 1 := by omega
  have hb2 : ¬ (c = i + 1) := by omega
  have hb3 : (i : Int) ≤ (n : Int) + 1 := by omega
  have hb4 : ¬ (c = i) := by omega
  have hcp1 : ∀ ty dc sc, (Builtin.copy_ #[49, 49] ty #[.slice (some ⟨b, (i + 1) * 8, none⟩) (n - i) dc, .slice (some ⟨b, i * 8, none⟩) (n + 1 - i) sc]).run Go.Proofs.Tryz.prog w.drew = .ok (goInt ((n - i : Nat) : Int)) (w.drew.setCells b ((i + 1) * 8) olds) := fun ty dc sc =>
    Go.Ab.run_copy_many (P := Go.Proofs.Tryz.prog) (w := w.drew) (n := n - i) (b := b) (off := (i + 1) * 8) (dl := n - i) (dc := dc) (sl := n + 1 - i) (sc := sc) (sa := ⟨b, i * 8, none⟩) (vs := olds) Go.Proofs.Tryz.underlying49 hi0 (by simp only [Nat.min_def]; split <;> omega) (by rw [hol, hz0]) (fun j v hj => by rw [Addr.add_lit]; exact holds j v hj)
      (fun j hj => Go.Ab.shape_cell (w := w.drew) hsh (by omega)) (fun j hj => hf _) h1o
  have hcp2 : ∀ ty dc, (Builtin.copy_ #[49, 49] ty #[.slice (some ⟨b, i * 8, none⟩) (n + 1 - i) dc, .slice (some ⟨vb, 0, none⟩) 1 vc]).run Go.Proofs.Tryz.prog (w.drew.setCells b ((i + 1) * 8) olds) = .ok (goInt 1) ((w.drew.setCells b ((i + 1) * 8) olds).setCells b (i * 8) ys) := fun ty dc =>
    Go.Ab.run_copy_many (P := Go.Proofs.Tryz.prog) (w := w.drew.setCells b ((i + 1) * 8) olds) (n := 1) (b := b) (off := i * 8) (dl := n + 1 - i) (dc := dc) (sl := 1) (sc := vc) (sa := ⟨vb, 0, none⟩) (vs := ys) Go.Proofs.Tryz.underlying49 hi0 (by simp only [Nat.min_def]; split <;> omega) (by rw [hyl, hz0]) (fun j v hj => by rw [Addr.add_lit, Nat.zero_add, World.cell?_setCells_out _ _ _ _ _ (fun h _ => absurd h hvb)]; exact hys j v hj)
      (fun j hj => Go.Ab.shape_cell (by rw [Go.Ab.setCells_shape]; exact hsh) (by omega)) (fun j hj => by rw [World.frozen?_setCells]; exact hf _) h1
  clear hsize hys holds hsh hsv hf hfv
  go_enter Go.Proofs.Tryz.func227, Go.Proofs.Tryz.ntmps227
  go_wp2_with (simp only [hov])

  go_region_law_o (refine step_copy_runI rfl _ _ 49 49 rfl _ _ (by simp [Act.eval, Act.put]) (by simp [Act.eval, Act.put]) (hcp1 _ _ _) ?_)
  go_wp2_with (at_builtin; refine wpList_copy_runI _ rfl _ _ 49 49 rfl _ _ rfl rfl (hcp2 _ _) ?_)
  go_ret
  first | exact ⟨rfl, rfl⟩
-- D: in between, no room
theorem ins227D (b n c i vb vc : Nat) (ys olds front : List Value) (w : World) (i0 : TypeInfo) (z : Value) (hi0 : Go.Proofs.Tryz.prog.info? 54 = some i0) (hz0 : i0.size = 8) (hz : i0.zero = some z) (hzs : z.cells.size = 8) (hb0 : 0 < i0.bytes) (hi : i < n) (hnc : n ≤ c) (hroom : c < n + 1) (hby : (n + 1) * i0.bytes ≤ 140737488355328)
    (hbw : b < w.heap.size) (hvw : vb < w.heap.size)
    (hfl : front.length = i * 8) (hfront : ∀ j v, front[j]? = some v → w.cell? ⟨b, j, none⟩ = some v)
    (hyl : ys.length = 8) (hys : ∀ j v, ys[j]? = some v → w.cell? ⟨vb, j, none⟩ = some v) (h1 : ∀ u ∈ ys, u.oneCell' = true)
    (hol : olds.length = (n - i) * 8) (holds : ∀ j v, olds[j]? = some v → w.cell? ⟨b, i * 8 + j, none⟩ = some v) (h1o : ∀ u ∈ olds, u.oneCell' = true) :
    Calls Go.Proofs.Tryz.prog 227 #[.slice (some ⟨b, 0, none⟩) n c, .int .i64 i, .slice (some ⟨vb, 0, none⟩) 1 vc] w fun e w' => ∃ ROW : Array Value, ROW.size = grownCap w (n + 1) c 54 * 8 ∧ ROW.toList.take (i * 8) = front ∧
      e = .returned (.slice (some ⟨w.heap.size, 0, none⟩) (n + 1) (grownCap w (n + 1) c 54)) ∧
      w' = (((w.drew.alloc (.cells ROW 54)).setCells w.heap.size (i * 8) ys).drew).setCells w.heap.size ((i + 1) * 8) olds := by
  have mixed : Go.Proofs.Tryz.prog.follows .mixedOrders = true := Go.Ab.Tryz.mixed
  have hz2 : ¬ ((i : Int) = (n : Int)) := by omega
  have hz3 : (c : Int) < (n : Int) + 1 := by omega
  have hkk : (n : Int) + 1 - (i : Int) = ((n + 1 - i : Nat) : Int) := by omega
  have hik : i + (n + 1 - i) = n + 1 := by omega
  have hold : (Builtin.firstCells i0.size i (.slice (some ⟨b, 0, none⟩) i c)).run Go.Proofs.Tryz.prog w.drew = .ok front.toArray w.drew := by
    rw [hz0]
    exact run_firstCells_some w.drew 8 i ⟨b, 0, none⟩ i c front hfl (fun j v hj => by rw [Addr.add_lit, Nat.zero_add]; exact hfront j v hj)
  have hk48 : (n + 1 - i) * i0.bytes ≤ 281474976710656 := by
    have : (n + 1 - i) * i0.bytes ≤ (n + 1) * i0.bytes := Nat.mul_le_mul_right _ (by omega)
    omega
  have hn47 : n + 1 ≤ 140737488355328 := by
    have : (n + 1) * 1 ≤ (n + 1) * i0.bytes := Nat.mul_le_mul_left _ hb0
    omega
  have hrz : ∀ ty, (Builtin.append_ #[49, 3] ty #[.slice (some ⟨b, 0, none⟩) i c, .int .i64 ((n : Int) + 1 - (i : Int))]).run Go.Proofs.Tryz.prog w =
      .ok (.slice (some ⟨w.heap.size, 0, none⟩) (n + 1) (grownCap w (n + 1) c 54)) (w.drew.alloc (.cells (front.toArray ++ Builtin.zeroCells z.cells (n + 1 - i) ++ Builtin.zeroCells z.cells (grownCap w (n + 1) c 54 - (n + 1))) 54)) := fun ty => by
    have h := Lib.run_append_grow_zeros w 49 3 ty 54 i0 _ .i64 .i64 Go.Proofs.Tryz.underlying49 Go.Proofs.Tryz.underlying3 hi0 hz (some ⟨b, 0, none⟩) i c front hold (n + 1 - i) (by omega) (by omega) (by omega) (by omega) hk48 (by rw [hik]; exact growslice_fits hroom hby)
    rw [hik] at h
    rw [hkk]
    exact h
  obtain ⟨G, hG⟩ : ∃ G, G = grownCap w (n + 1) c 54 := ⟨_, rfl⟩
  obtain ⟨ROW, hROW⟩ : ∃ ROW : Array Value, ROW = front.toArray ++ Builtin.zeroCells z.cells (n + 1 - i) ++ Builtin.zeroCells z.cells (G - (n + 1)) := ⟨_, rfl⟩
  rw [← hG] at hrz ⊢
  rw [← hROW] at hrz
  have hGn : n + 1 ≤ G := by rw [hG]; exact grownCap_ge w _ _ _
  have hRl : ROW.size = G * 8 := by
    rw [hROW]
    simp only [Array.size_append, List.size_toArray, hfl, Builtin.zeroCells, Array.size_map, Array.size_range, hzs]
    omega
  have hRt : ROW.toList.take (i * 8) = front := by
    rw [hROW]
    simp only [Array.toList_append, List.append_assoc]
    rw [← hfl, List.take_left']
    rfl
  obtain ⟨W1, hW1⟩ : ∃ W1, W1 = w.drew.alloc (.cells ROW 54) := ⟨_, rfl⟩
  rw [← hW1] at hrz
  have hN : ∀ j, j < (n + 1) * 8 → (W1.cell? ⟨w.heap.size, j, none⟩).isSome = true := fun j hj => by
    rw [hW1, World.cell?_alloc_at (w := w.drew) ROW _ w.heap.size j rfl, Array.getElem?_eq_getElem (by omega)]; rfl
  have hNf : ∀ j, W1.frozen? ⟨w.heap.size, j, none⟩ = false := fun j => by rw [hW1]; exact World.frozen?_alloc_at (w := w.drew) ROW _ w.heap.size j rfl
  have hOb : ∀ j v, w.cell? ⟨b, j, none⟩ = some v → W1.cell? ⟨b, j, none⟩ = some v := fun j v h => by rw [hW1, World.cell?_alloc_past (w := w.drew) _ b j hbw]; exact h
  have hOv : ∀ j v, w.cell? ⟨vb, j, none⟩ = some v → W1.cell? ⟨vb, j, none⟩ = some v := fun j v h => by rw [hW1, World.cell?_alloc_past (w := w.drew) _ vb j hvw]; exact h
  have hbN : b ≠ w.heap.size := by omega
  have hcpA : ∀ (W : World), (∀ x, W.cell? x = W1.cell? x) → (∀ x, W.frozen? x = W1.frozen? x) → ∀ ty dc, (Builtin.copy_ #[49, 49] ty #[.slice (some ⟨w.heap.size, i * 8, none⟩) (n + 1 - i) dc, .slice (some ⟨vb, 0, none⟩) 1 vc]).run Go.Proofs.Tryz.prog W = .ok (goInt 1) (W.setCells w.heap.size (i * 8) ys) := fun W hWc hWf ty dc =>
    Go.Ab.run_copy_many (P := Go.Proofs.Tryz.prog) (w := W) (n := 1) (b := w.heap.size) (off := i * 8) (dl := n + 1 - i) (dc := dc) (sl := 1) (sc := vc) (sa := ⟨vb, 0, none⟩) (vs := ys) Go.Proofs.Tryz.underlying49 hi0 (by simp only [Nat.min_def]; split <;> omega) (by rw [hyl, hz0])
      (fun j v hj => by rw [Addr.add_lit, Nat.zero_add, hWc]; exact hOv _ v (hys j v hj)) (fun j hj => by rw [hWc]; exact hN _ (by omega)) (fun j hj => by rw [hWf]; exact hNf _) h1
  have hcpB : ∀ (W : World), (∀ x, W.cell? x = (W1.setCells w.heap.size (i * 8) ys).cell? x) → (∀ x, W.frozen? x = (W1.setCells w.heap.size (i * 8) ys).frozen? x) → ∀ ty dc sc, (Builtin.copy_ #[49, 49] ty #[.slice (some ⟨w.heap.size, (i + 1) * 8, none⟩) (n - i) dc, .slice (some ⟨b, i * 8, none⟩) (n - i) sc]).run Go.Proofs.Tryz.prog W = .ok (goInt ((n - i : Nat) : Int)) (W.setCells w.heap.size ((i + 1) * 8) olds) := fun W hWc hWf ty dc sc =>
    Go.Ab.run_copy_many (P := Go.Proofs.Tryz.prog) (w := W) (n := n - i) (b := w.heap.size) (off := (i + 1) * 8) (dl := n - i) (dc := dc) (sl := n - i) (sc := sc) (sa := ⟨b, i * 8, none⟩) (vs := olds) Go.Proofs.Tryz.underlying49 hi0 (by simp only [Nat.min_def]; split <;> omega) (by rw [hol, hz0])
      (fun j v hj => by rw [Addr.add_lit, hWc, World.cell?_setCells_out _ _ _ _ _ (fun h _ => absurd h hbN)]; exact hOb _ v (holds j v hj))
      (fun j hj => by rw [hWc]; exact isSome_setCells _ _ _ _ (fun t ht => hN _ (by omega)) _ (hN _ (by omega)))
      (fun j hj => by rw [hWf, World.frozen?_setCells]; exact hNf _) h1o
  have hGi : ¬ (G = i) := by omega
  have hGim : ¬ (G = i + 1) := by omega
  have hci : ¬ (c = i) := by omega
  refine Calls.mono (R := fun e w' => e = .returned (.slice (some ⟨w.heap.size, 0, none⟩) (n + 1) G) ∧ w' = (((w.drew.alloc (.cells ROW 54)).setCells w.heap.size (i * 8) ys).drew).setCells w.heap.size ((i + 1) * 8) olds) ?_ (fun e w' h => ⟨ROW, hRl, hRt, h.1, h.2⟩)
  subst hW1
  have hE1 : ∀ x, ((w.alloc (.cells ROW 54)).drew).cell? x = (w.drew.alloc (.cells ROW 54)).cell? x := fun x => rfl
  have hE2 : ∀ x, ((w.alloc (.cells ROW 54)).drew).frozen? x = (w.drew.alloc (.cells ROW 54)).frozen? x := fun x => rfl
  have hF1 : ∀ x, (((w.alloc (.cells ROW 54)).drew.setCells w.heap.size (i * 8) ys).drew).cell? x = ((w.drew.alloc (.cells ROW 54)).setCells w.heap.size (i * 8) ys).cell? x := fun x => rfl
  have hF2 : ∀ x, (((w.alloc (.cells ROW 54)).drew.setCells w.heap.size (i * 8) ys).drew).frozen? x = ((w.drew.alloc (.cells ROW 54)).setCells w.heap.size (i * 8) ys).frozen? x := fun x => rfl
  have hw1 : IntKind.i64.wrap ((i : Int) + 1) = (i : Int) + 1 := by
    rw [IntKind.wrap_i64]; omega
  have hb1 : (0 : Int) ≤ (i : Int) + 1 := by omega
  have hin : i ≤ n := by omega
  have htn : ((i : Int) + 1).toNat = i + 1 := by omega
  have hb3 : (i : Int) ≤ (n : Int) := by omega
  clear hkk hik hold hROW hG hRl hRt hN hNf hOb hOv hys hfront holds hby hz
  go_enter Go.Proofs.Tryz.func227, Go.Proofs.Tryz.ntmps227
  go_wp2_with (first
    | (at_builtin; refine Lib.wpList_append_run _ rfl _ _ _ _ rfl _ _ rfl rfl _ _ (hrz _) ?_)
    | (at_builtin; refine wpList_copy_runI _ rfl _ _ 49 49 rfl _ _ rfl rfl (hcpA _ hE1 hE2 _ _) ?_)
    | (at_builtin; refine wpList_copy_runI _ rfl _ _ 49 49 rfl _ _ rfl rfl (hcpB _ (fun _ => rfl) (fun _ => rfl) _ _ _) ?_))
  go_region_law_o (refine step_copy_runI rfl _ _ 49 49 rfl (.slice (some ⟨w.heap.size, (i + 1) * 8, none⟩) (n - i) (G - (i + 1))) (.slice (some ⟨b, i * 8, none⟩) (n - i) (c - i)) (by simp [Act.eval, Act.put]) (by simp [Act.eval, Act.put]) (hcpB _ hF1 hF2 3 (G - (i + 1)) (c - i)) ?_)
  go_wp2
  go_ret
  exact ⟨rfl, rfl⟩
theorem ins227 : Go.Ab.InsCalls Go.Proofs.Tryz.prog 227 8 54 96 := by
  obtain ⟨i0, z, hi0, hz0, hb0, hz, hzs⟩ := Go.Ab.zeroFits_ok (Go.Ab.tabB_ok Go.Ab.Tryz.tabOk) (cfg := Go.Ab.Tryz.cfg) rfl (e := 54) rfl rfl
  have hz0 : i0.size = 8 := hz0
  have hb0 : i0.bytes = 96 := hb0
  have hzs : z.cells.size = 8 := hzs
  refine ⟨?_, ?_, ?_, ?_⟩
  · intro b n c vb vc size tt ys w hroom hsh hsz hf hyl hys h1
    exact ins227A i0 b n c vb vc size tt ys w hi0 hz0 hroom hsh hsz (fun q _ => hf q) hyl hys h1
  · intro ba n c vb vc ys olds w hnc hroom hby hfo hol hyl hys
    refine Calls.mono (ins227B ba n c vb vc ys olds w i0 z hi0 hz0 hz (by omega) hnc hroom (by rw [hb0]; exact hby) hfo hyl hys) fun x w' h => ?_
    refine ⟨_, _, grownCap_ge w (n + 1) c 54, ?_, ?_, h.1, h.2⟩
    · have := grownCap_ge w (n + 1) c 54
      simp only [List.size_toArray, List.length_append, Array.length_toList, hol, hyl, Builtin.zeroCells, Array.size_map, Array.size_range, hzs]
      omega
    · rw [List.take_left']
      rw [List.length_append, hol, hyl]
      omega
  · intro b n c i vb vc size vsz tt vt ys olds w hi hn hroom hsh hsz hf hsv hfv hvb hyl hys h1 hol holds h1o
    exact ins227C b n c i vb vc size vsz tt vt ys olds w i0 hi0 hz0 hi hn hroom hsh hsz hf hsv hfv hvb hyl hys h1 hol holds h1o
  · intro b n c i vb vc ys olds front w hi hnc hroom hby hbw hvw hfl hfront hyl hys h1 hol holds h1o
    refine Calls.mono (ins227D b n c i vb vc ys olds front w i0 z hi0 hz0 hz hzs (by omega) hi hnc hroom (by rw [hb0]; exact hby) hbw hvw hfl hfront hyl hys h1 hol holds h1o) fun x w' h => ?_
    obtain ⟨ROW, h1, h2, h3, h4⟩ := h
    exact ⟨ROW, _, grownCap_ge w (n + 1) c 54, h1, h2, h3, h4⟩
end Go.Hand
namespace Go.Ab
open Go Go.Proofs
theorem insert227 (xs : List AV) (y : AV) (i : Nat) (hi : i ≤ xs.length) (hby : (xs.length + 1) * 96 ≤ 140737488355328) : SoundCall Go.Proofs.Tryz.prog Tryz.phi 227 [.sref (.inc 0) 0 xs.length, .int .i64 i, .sref (.inc 1) 0 1] [.row 8 xs true true, .row 8 [y] true true] ⟨.sref (.out 0) 0 (xs.length + 1), [.gone, .gone], [.row 8 (xs.take i ++ y :: xs.drop i) true true]⟩ :=
  insert_sound Go.Hand.ins227 Go.Proofs.Tryz.func227 (by kernel_rfl) (by kernel_rfl) (by decide) (by decide) hi hby

end Go.Ab
namespace Go.Hand
open Go Go.Proofs Go.RowKit Go.Lib
-- A: at the end, room
theorem ins229A (i0 : TypeInfo) (b n c vb vc size : Nat) (tt : TypeId) (ys : List Value) (w : World) (hi0 : Go.Proofs.Tryz.prog.info? 39 = some i0) (hz0 : i0.size = 4) (hroom : n + 1 ≤ c) (hsh : w.shape? b = some (tt, size)) (hsz : (n + 1) * 4 ≤ size) (hf : ∀ q, q < size → w.frozen? ⟨b, q, none⟩ = false)
    (hyl : ys.length = 4) (hys : ∀ j v, ys[j]? = some v → w.cell? ⟨vb, j, none⟩ = some v) (h1 : ∀ u ∈ ys, u.oneCell' = true) :
    Calls Go.Proofs.Tryz.prog 229 #[.slice (some ⟨b, 0, none⟩) n c, .int .i64 n, .slice (some ⟨vb, 0, none⟩) 1 vc] w fun e w' => e = .returned (.slice (some ⟨b, 0, none⟩) (n + 1) c) ∧ w' = w.setCells b (n * 4) ys := by
  have mixed : Go.Proofs.Tryz.prog.follows .mixedOrders = true := Go.Ab.Tryz.mixed
  have hnc : n ≤ c := by omega
  have hfc : (Builtin.firstCells i0.size 1 (.slice (some ⟨vb, 0, none⟩) 1 vc)).run Go.Proofs.Tryz.prog w = .ok ys.toArray w := by
    rw [hz0]
    exact run_firstCells_some w 4 1 ⟨vb, 0, none⟩ 1 vc ys (by rw [hyl]) (fun j v hj => by rw [Addr.add_lit, Nat.zero_add]; exact hys j v hj)
  have hrun := fun ty => Go.Ab.app_room (P := Go.Proofs.Tryz.prog) (w := w) (ty := ty) (off := 0) (len := n) (cap := c) (n := 1) (b := b) Go.Proofs.Tryz.underlying30 Go.Proofs.Tryz.underlying30 (.inl ⟨_, rfl⟩) hi0 (by simp [Builtin.lenOf]) hfc hroom
    (fun j hj => by rw [hz0]; exact Go.Ab.shape_cell hsh (by omega)) (fun j hj => by rw [hz0]; exact hf _ (by omega)) h1
  simp only [hz0, Nat.zero_add] at hrun
  go_enter Go.Proofs.Tryz.func229, Go.Proofs.Tryz.ntmps229
  go_wp2_with (at_builtin; refine Lib.wpList_append_run _ rfl _ _ _ _ rfl _ _ rfl rfl _ _ (hrun _) ?_)
  go_ret
  exact ⟨rfl, rfl⟩
-- B: at the end, no room
theorem ins229B (ba : Option Addr) (n c vb vc : Nat) (ys olds : List Value) (w : World) (i0 : TypeInfo) (z : Value) (hi0 : Go.Proofs.Tryz.prog.info? 39 = some i0) (hz0 : i0.size = 4) (hz : i0.zero = some z) (hb0 : 0 < i0.bytes) (hnc : n ≤ c) (hroom : c < n + 1) (hby : (n + 1) * i0.bytes ≤ 140737488355328)
    (hfo : (Builtin.firstCells 4 n (.slice ba n c)).run Go.Proofs.Tryz.prog w.drew = .ok olds.toArray w.drew)
    (hyl : ys.length = 4) (hys : ∀ j v, ys[j]? = some v → w.cell? ⟨vb, j, none⟩ = some v) :
    Calls Go.Proofs.Tryz.prog 229 #[.slice ba n c, .int .i64 n, .slice (some ⟨vb, 0, none⟩) 1 vc] w fun e w' => e = .returned (.slice (some ⟨w.heap.size, 0, none⟩) (n + 1) (grownCap w (n + 1) c 39)) ∧
      w' = w.drew.alloc (.cells (olds ++ ys ++ (Builtin.zeroCells z.cells (grownCap w (n + 1) c 39 - (n + 1))).toList).toArray 39) := by
  have mixed : Go.Proofs.Tryz.prog.follows .mixedOrders = true := Go.Ab.Tryz.mixed
  have hfc : (Builtin.firstCells i0.size 1 (.slice (some ⟨vb, 0, none⟩) 1 vc)).run Go.Proofs.Tryz.prog w.drew = .ok ys.toArray w.drew := by
    rw [hz0]
    exact run_firstCells_some w.drew 4 1 ⟨vb, 0, none⟩ 1 vc ys (by rw [hyl]) (fun j v hj => by rw [Addr.add_lit, Nat.zero_add]; exact hys j v hj)
  have hrun := fun ty => Go.Ab.app_grow (P := Go.Proofs.Tryz.prog) (w := w) (ty := ty) (len := n) (cap := c) (n := 1) (b := ba) (olds := olds) (news := ys) (yv := .slice (some ⟨vb, 0, none⟩) 1 vc) Go.Proofs.Tryz.underlying30 Go.Proofs.Tryz.underlying30 (.inl ⟨_, rfl⟩) hi0 hz (by simp [Builtin.lenOf]) hfc (by rw [hz0]; exact hfo) hroom hby hb0
  generalize hG : grownCap w (n + 1) c 39 = G at hrun ⊢
  generalize hR : (olds ++ ys ++ (Builtin.zeroCells z.cells (G - (n + 1))).toList).toArray = ROW at hrun ⊢
  clear hG hR hfo hfc hz hby
  go_enter Go.Proofs.Tryz.func229, Go.Proofs.Tryz.ntmps229
  go_wp2_with (at_builtin; refine Lib.wpList_append_run _ rfl _ _ _ _ rfl _ _ rfl rfl _ _ (hrun _) ?_)
  go_ret
  exact ⟨rfl, rfl⟩
-- C: in between, room
theorem ins229C (b n c i vb vc size vsz : Nat) (tt vt : TypeId) (ys olds : List Value) (w : World) (i0 : TypeInfo) (hi0 : Go.Proofs.Tryz.prog.info? 39 = some i0) (hz0 : i0.size = 4) (hi : i < n) (hn47 : n + 1 ≤ 140737488355328) (hroom : n + 1 ≤ c) (hsh : w.shape? b = some (tt, size)) (hsz : (n + 1) * 4 ≤ size) (hf : ∀ q, w.frozen? ⟨b, q, none⟩ = false)
    (hsv : w.shape? vb = some (vt, vsz)) (hfv : ∀ q, w.frozen? ⟨vb, q, none⟩ = false) (hvb : vb ≠ b)
    (hyl : ys.length = 4) (hys : ∀ j v, ys[j]? = some v → w.cell? ⟨vb, j, none⟩ = some v) (h1 : ∀ u ∈ ys, u.oneCell' = true)
    (hol : olds.length = (n - i) * 4) (holds : ∀ j v, olds[j]? = some v → w.cell? ⟨b, i * 4 + j, none⟩ = some v) (h1o : ∀ u ∈ olds, u.oneCell' = true) :
    Calls Go.Proofs.Tryz.prog 229 #[.slice (some ⟨b, 0, none⟩) n c, .int .i64 i, .slice (some ⟨vb, 0, none⟩) 1 vc] w fun e w' => e = .returned (.slice (some ⟨b, 0, none⟩) (n + 1) c) ∧
      w' = (w.drew.setCells b ((i + 1) * 4) olds).setCells b (i * 4) ys := by
  have mixed : Go.Proofs.Tryz.prog.follows .mixedOrders = true := Go.Ab.Tryz.mixed
  have hz2 : ¬ ((i : Int) = (n : Int)) := by omega
  have hsize : ∀ w, (Go.sizeOf 39).run Go.Proofs.Tryz.prog w = .ok 4 w := fun w => by simp [sizeOf, typeInfo, hi0, hz0]
  have hov : ∀ lb cb, (callFunc 242 #[.slice (some ⟨vb, 0, none⟩) 1 vc, .slice (some ⟨b, (i + 1) * 4, none⟩) lb cb]).run Go.Proofs.Tryz.prog w = .ok (.value (.bool false)) w := fun lb cb => by
    rw [run_callFunc_extern Go.Proofs.Tryz.func242 (by kernel_rfl) (by kernel_rfl) (by kernel_rfl) (e := Extern.SlicesOverlaps.overlaps #[30, 30] #[4]) (by kernel_rfl),
      Lib.run_overlaps_apart w 30 4 39 Go.Proofs.Tryz.underlying30 4 hsize ⟨vb, 0, none⟩ ⟨b, (i + 1) * 4, none⟩ 1 vc lb cb hvb vt tt vsz size hsv hsh (by omega) (hfv _) (hfv _)]
    rfl
  have hw1 : IntKind.i64.wrap ((i : Int) + 1) = (i : Int) + 1 := by rw [IntKind.wrap_i64]; omega
  have hb1 : (0 : Int) ≤ (i : Int) + 1 := by omega
  have hin : i ≤ n := by omega
  have htn : ((i : Int) + 1).toNat = i + 1 := by omega
  have hb2 : ¬ (c = i + 1) := by omega
  have hb3 : (i : Int) ≤ (n : Int) + 1 := by omega
  have hb4 : ¬ (c = i) := by omega
  have hcp1 : ∀ ty dc sc, (Builtin.copy_ #[30, 30] ty #[.slice (some ⟨b, (i + 1) * 4, none⟩) (n - i) dc, .slice (some ⟨b, i * 4, none⟩) (n + 1 - i) sc]).run Go.Proofs.Tryz.prog w.drew = .ok (goInt ((n - i : Nat) : Int)) (w.drew.setCells b ((i + 1) * 4) olds) := fun ty dc sc =>
    Go.Ab.run_copy_many (P := Go.Proofs.Tryz.prog) (w := w.drew) (n := n - i) (b := b) (off := (i + 1) * 4) (dl := n - i) (dc := dc) (sl := n + 1 - i) (sc := sc) (sa := ⟨b, i * 4, none⟩) (vs := olds) Go.Proofs.Tryz.underlying30 hi0 (by simp only [Nat.min_def]; split <;> omega) (by rw [hol, hz0]) (fun j v hj => by rw [Addr.add_lit]; exact holds j v hj)
      (fun j hj => Go.Ab.shape_cell (w := w.drew) hsh (by omega)) (fun j hj => hf _) h1o
  have hcp2 : ∀ ty dc, (Builtin.copy_ #[30, 30] ty #[.slice (some ⟨b, i * 4, none⟩) (n + 1 - i) dc, .slice (some ⟨vb, 0, none⟩) 1 vc]).run Go.Proofs.Tryz.prog (w.drew.setCells b ((i + 1) * 4) olds) = .ok (goInt 1) ((w.drew.setCells b ((i + 1) * 4) olds).setCells b (i * 4) ys) := fun ty dc =>
    Go.Ab.run_copy_many (P := Go.Proofs.Tryz.prog) (w := w.drew.setCells b ((i + 1) * 4) olds) (n := 1) (b := b) (off := i * 4) (dl := n + 1 - i) (dc := dc) (sl := 1) (sc := vc) (sa := ⟨vb, 0, none⟩) (vs := ys) Go.Proofs.Tryz.underlying30 hi0 (by simp only [Nat.min_def]; split <;> omega) (by rw [hyl, hz0]) (fun j v hj => by rw [Addr.add_lit, Nat.zero_add, World.cell?_setCells_out _ _ _ _ _ (fun h _ => absurd h hvb)]; exact hys j v hj)
      (fun j hj => Go.Ab.shape_cell (by rw [Go.Ab.setCells_shape]; exact hsh) (by omega)) (fun j hj => by rw [World.frozen?_setCells]; exact hf _) h1
  clear hsize hys holds hsh hsv hf hfv
  go_enter Go.Proofs.Tryz.func229, Go.Proofs.Tryz.ntmps229
  go_wp2_with (simp only [hov])

  go_region_law_o (refine step_copy_runI rfl _ _ 30 30 rfl _ _ (by simp [Act.eval, Act.put]) (by simp [Act.eval, Act.put]) (hcp1 _ _ _) ?_)
  go_wp2_with (at_builtin; refine wpList_copy_runI _ rfl _ _ 30 30 rfl _ _ rfl rfl (hcp2 _ _) ?_)
  go_ret
  first | exact ⟨rfl, rfl⟩
-- D: in between, no room
theorem ins229D (b n c i vb vc : Nat) (ys olds front : List Value) (w : World) (i0 : TypeInfo) (z : Value) (hi0 : Go.Proofs.Tryz.prog.info? 39 = some i0) (hz0 : i0.size = 4) (hz : i0.zero = some z) (hzs : z.cells.size = 4) (hb0 : 0 < i0.bytes) (hi : i < n) (hnc : n ≤ c) (hroom : c < n + 1) (hby : (n + 1) * i0.bytes ≤ 140737488355328)
    (hbw : b < w.heap.size) (hvw : vb < w.heap.size)
    (hfl : front.length = i * 4) (hfront : ∀ j v, front[j]? = some v → w.cell? ⟨b, j, none⟩ = some v)
    (hyl : ys.length = 4) (hys : ∀ j v, ys[j]? = some v → w.cell? ⟨vb, j, none⟩ = some v) (h1 : ∀ u ∈ ys, u.oneCell' = true)
    (hol : olds.length = (n - i) * 4) (holds : ∀ j v, olds[j]? = some v → w.cell? ⟨b, i * 4 + j, none⟩ = some v) (h1o : ∀ u ∈ olds, u.oneCell' = true) :
    Calls Go.Proofs.Tryz.prog 229 #[.slice (some ⟨b, 0, none⟩) n c, .int .i64 i, .slice (some ⟨vb, 0, none⟩) 1 vc] w fun e w' => ∃ ROW : Array Value, ROW.size = grownCap w (n + 1) c 39 * 4 ∧ ROW.toList.take (i * 4) = front ∧
      e = .returned (.slice (some ⟨w.heap.size, 0, none⟩) (n + 1) (grownCap w (n + 1) c 39)) ∧
      w' = (((w.drew.alloc (.cells ROW 39)).setCells w.heap.size (i * 4) ys).drew).setCells w.heap.size ((i + 1) * 4) olds := by
  have mixed : Go.Proofs.Tryz.prog.follows .mixedOrders = true := Go.Ab.Tryz.mixed
  have hz2 : ¬ ((i : Int) = (n : Int)) := by omega
  have hz3 : (c : Int) < (n : Int) + 1 := by omega
  have hkk : (n : Int) + 1 - (i : Int) = ((n + 1 - i : Nat) : Int) := by omega
  have hik : i + (n + 1 - i) = n + 1 := by omega
  have hold : (Builtin.firstCells i0.size i (.slice (some ⟨b, 0, none⟩) i c)).run Go.Proofs.Tryz.prog w.drew = .ok front.toArray w.drew := by
    rw [hz0]
    exact run_firstCells_some w.drew 4 i ⟨b, 0, none⟩ i c front hfl (fun j v hj => by rw [Addr.add_lit, Nat.zero_add]; exact hfront j v hj)
  have hk48 : (n + 1 - i) * i0.bytes ≤ 281474976710656 := by
    have : (n + 1 - i) * i0.bytes ≤ (n + 1) * i0.bytes := Nat.mul_le_mul_right _ (by omega)
    omega
  have hn47 : n + 1 ≤ 140737488355328 := by
    have : (n + 1) * 1 ≤ (n + 1) * i0.bytes := Nat.mul_le_mul_left _ hb0
    omega
  have hrz : ∀ ty, (Builtin.append_ #[30, 3] ty #[.slice (some ⟨b, 0, none⟩) i c, .int .i64 ((n : Int) + 1 - (i : Int))]).run Go.Proofs.Tryz.prog w =
      .ok (.slice (some ⟨w.heap.size, 0, none⟩) (n + 1) (grownCap w (n + 1) c 39)) (w.drew.alloc (.cells (front.toArray ++ Builtin.zeroCells z.cells (n + 1 - i) ++ Builtin.zeroCells z.cells (grownCap w (n + 1) c 39 - (n + 1))) 39)) := fun ty => by
    have h := Lib.run_append_grow_zeros w 30 3 ty 39 i0 _ .i64 .i64 Go.Proofs.Tryz.underlying30 Go.Proofs.Tryz.underlying3 hi0 hz (some ⟨b, 0, none⟩) i c front hold (n + 1 - i) (by omega) (by omega) (by omega) (by omega) hk48 (by rw [hik]; exact growslice_fits hroom hby)
    rw [hik] at h
    rw [hkk]
    exact h
  obtain ⟨G, hG⟩ : ∃ G, G = grownCap w (n + 1) c 39 := ⟨_, rfl⟩
  obtain ⟨ROW, hROW⟩ : ∃ ROW : Array Value, ROW = front.toArray ++ Builtin.zeroCells z.cells (n + 1 - i) ++ Builtin.zeroCells z.cells (G - (n + 1)) := ⟨_, rfl⟩
  rw [← hG] at hrz ⊢
  rw [← hROW] at hrz
  have hGn : n + 1 ≤ G := by rw [hG]; exact grownCap_ge w _ _ _
  have hRl : ROW.size = G * 4 := by
    rw [hROW]
    simp only [Array.size_append, List.size_toArray, hfl, Builtin.zeroCells, Array.size_map, Array.size_range, hzs]
    omega
  have hRt : ROW.toList.take (i * 4) = front := by
    rw [hROW]
    simp only [Array.toList_append, List.append_assoc]
    rw [← hfl, List.take_left']
    rfl
  obtain ⟨W1, hW1⟩ : ∃ W1, W1 = w.drew.alloc (.cells ROW 39) := ⟨_, rfl⟩
  rw [← hW1] at hrz
  have hN : ∀ j, j < (n + 1) * 4 → (W1.cell? ⟨w.heap.size, j, none⟩).isSome = true := fun j hj => by
    rw [hW1, World.cell?_alloc_at (w := w.drew) ROW _ w.heap.size j rfl, Array.getElem?_eq_getElem (by omega)]; rfl
  have hNf : ∀ j, W1.frozen? ⟨w.heap.size, j, none⟩ = false := fun j => by rw [hW1]; exact World.frozen?_alloc_at (w := w.drew) ROW _ w.heap.size j rfl
  have hOb : ∀ j v, w.cell? ⟨b, j, none⟩ = some v → W1.cell? ⟨b, j, none⟩ = some v := fun j v h => by rw [hW1, World.cell?_alloc_past (w := w.drew) _ b j hbw]; exact h
  have hOv : ∀ j v, w.cell? ⟨vb, j, none⟩ = some v → W1.cell? ⟨vb, j, none⟩ = some v := fun j v h => by rw [hW1, World.cell?_alloc_past (w := w.drew) _ vb j hvw]; exact h
  have hbN : b ≠ w.heap.size := by omega
  have hcpA : ∀ (W : World), (∀ x, W.cell? x = W1.cell? x) → (∀ x, W.frozen? x = W1.frozen? x) → ∀ ty dc, (Builtin.copy_ #[30, 30] ty #[.slice (some ⟨w.heap.size, i * 4, none⟩) (n + 1 - i) dc, .slice (some ⟨vb, 0, none⟩) 1 vc]).run Go.Proofs.Tryz.prog W = .ok (goInt 1) (W.setCells w.heap.size (i * 4) ys) := fun W hWc hWf ty dc =>
    Go.Ab.run_copy_many (P := Go.Proofs.Tryz.prog) (w := W) (n := 1) (b := w.heap.size) (off := i * 4) (dl := n + 1 - i) (dc := dc) (sl := 1) (sc := vc) (sa := ⟨vb, 0, none⟩) (vs := ys) Go.Proofs.Tryz.underlying30 hi0 (by simp only [Nat.min_def]; split <;> omega) (by rw [hyl, hz0])
      (fun j v hj => by rw [Addr.add_lit, Nat.zero_add, hWc]; exact hOv _ v (hys j v hj)) (fun j hj => by rw [hWc]; exact hN _ (by omega)) (fun j hj => by rw [hWf]; exact hNf _) h1
  have hcpB : ∀ (W : World), (∀ x, W.cell? x = (W1.setCells w.heap.size (i * 4) ys).cell? x) → (∀ x, W.frozen? x = (W1.setCells w.heap.size (i * 4) ys).frozen? x) → ∀ ty dc sc, (Builtin.copy_ #[30, 30] ty #[.slice (some ⟨w.heap.size, (i + 1) * 4, none⟩) (n - i) dc, .slice (some ⟨b, i * 4, none⟩) (n - i) sc]).run Go.Proofs.Tryz.prog W = .ok (goInt ((n - i : Nat) : Int)) (W.setCells w.heap.size ((i + 1) * 4) olds) := fun W hWc hWf ty dc sc =>
    Go.Ab.run_copy_many (P := Go.Proofs.Tryz.prog) (w := W) (n := n - i) (b := w.heap.size) (off := (i + 1) * 4) (dl := n - i) (dc := dc) (sl := n - i) (sc := sc) (sa := ⟨b, i * 4, none⟩) (vs := olds) Go.Proofs.Tryz.underlying30 hi0 (by simp only [Nat.min_def]; split <;> omega) (by rw [hol, hz0])
      (fun j v hj => by rw [Addr.add_lit, hWc, World.cell?_setCells_out _ _ _ _ _ (fun h _ => absurd h hbN)]; exact hOb _ v (holds j v hj))
      (fun j hj => by rw [hWc]; exact isSome_setCells _ _ _ _ (fun t ht => hN _ (by omega)) _ (hN _ (by omega)))
      (fun j hj => by rw [hWf, World.frozen?_setCells]; exact hNf _) h1o
  have hGi : ¬ (G = i) := by omega
  have hGim : ¬ (G = i + 1) := by omega
  have hci : ¬ (c = i) := by omega
  refine Calls.mono (R := fun e w' => e = .returned (.slice (some ⟨w.heap.size, 0, none⟩) (n + 1) G) ∧ w' = (((w.drew.alloc (.cells ROW 39)).setCells w.heap.size (i * 4) ys).drew).setCells w.heap.size ((i + 1) * 4) olds) ?_ (fun e w' h => ⟨ROW, hRl, hRt, h.1, h.2⟩)
  subst hW1
  have hE1 : ∀ x, ((w.alloc (.cells ROW 39)).drew).cell? x = (w.drew.alloc (.cells ROW 39)).cell? x := fun x => rfl
  have hE2 : ∀ x, ((w.alloc (.cells ROW 39)).drew).frozen? x = (w.drew.alloc (.cells ROW 39)).frozen? x := fun x => rfl
  have hF1 : ∀ x, (((w.alloc (.cells ROW 39)).drew.setCells w.heap.size (i * 4) ys).drew).cell? x = ((w.drew.alloc (.cells ROW 39)).setCells w.heap.size (i * 4) ys).cell? x := fun x => rfl
  have hF2 : ∀ x, (((w.alloc (.cells ROW 39)).drew.setCells w.heap.size (i * 4) ys).drew).frozen? x = ((w.drew.alloc (.cells ROW 39)).setCells w.heap.size (i * 4) ys).frozen? x := fun x => rfl
  have hw1 : IntKind.i64.wrap ((i : Int) + 1) = (i : Int) + 1 := by
    rw [IntKind.wrap_i64]; omega
  have hb1 : (0 : Int) ≤ (i : Int) + 1 := by omega
  have hin : i ≤ n := by omega
  have htn : ((i : Int) + 1).toNat = i + 1 := by omega
  have hb3 : (i : Int) ≤ (n : Int) := by omega
  clear hkk hik hold hROW hG hRl hRt hN hNf hOb hOv hys hfront holds hby hz
  go_enter Go.Proofs.Tryz.func229, Go.Proofs.Tryz.ntmps229
  go_wp2_with (first
    | (at_builtin; refine Lib.wpList_append_run _ rfl _ _ _ _ rfl _ _ rfl rfl _ _ (hrz _) ?_)
    | (at_builtin; refine wpList_copy_runI _ rfl _ _ 30 30 rfl _ _ rfl rfl (hcpA _ hE1 hE2 _ _) ?_)
    | (at_builtin; refine wpList_copy_runI _ rfl _ _ 30 30 rfl _ _ rfl rfl (hcpB _ (fun _ => rfl) (fun _ => rfl) _ _ _) ?_))
  go_region_law_o (refine step_copy_runI rfl _ _ 30 30 rfl (.slice (some ⟨w.heap.size, (i + 1) * 4, none⟩) (n - i) (G - (i + 1))) (.slice (some ⟨b, i * 4, none⟩) (n - i) (c - i)) (by simp [Act.eval, Act.put]) (by simp [Act.eval, Act.put]) (hcpB _ hF1 hF2 3 (G - (i + 1)) (c - i)) ?_)
  go_wp2
  go_ret
  exact ⟨rfl, rfl⟩
theorem ins229 : Go.Ab.InsCalls Go.Proofs.Tryz.prog 229 4 39 32 := by
  obtain ⟨i0, z, hi0, hz0, hb0, hz, hzs⟩ := Go.Ab.zeroFits_ok (Go.Ab.tabB_ok Go.Ab.Tryz.tabOk) (cfg := Go.Ab.Tryz.cfg) rfl (e := 39) rfl rfl
  have hz0 : i0.size = 4 := hz0
  have hb0 : i0.bytes = 32 := hb0
  have hzs : z.cells.size = 4 := hzs
  refine ⟨?_, ?_, ?_, ?_⟩
  · intro b n c vb vc size tt ys w hroom hsh hsz hf hyl hys h1
    exact ins229A i0 b n c vb vc size tt ys w hi0 hz0 hroom hsh hsz (fun q _ => hf q) hyl hys h1
  · intro ba n c vb vc ys olds w hnc hroom hby hfo hol hyl hys
    refine Calls.mono (ins229B ba n c vb vc ys olds w i0 z hi0 hz0 hz (by omega) hnc hroom (by rw [hb0]; exact hby) hfo hyl hys) fun x w' h => ?_
    refine ⟨_, _, grownCap_ge w (n + 1) c 39, ?_, ?_, h.1, h.2⟩
    · have := grownCap_ge w (n + 1) c 39
      simp only [List.size_toArray, List.length_append, Array.length_toList, hol, hyl, Builtin.zeroCells, Array.size_map, Array.size_range, hzs]
      omega
    · rw [List.take_left']
      rw [List.length_append, hol, hyl]
      omega
  · intro b n c i vb vc size vsz tt vt ys olds w hi hn hroom hsh hsz hf hsv hfv hvb hyl hys h1 hol holds h1o
    exact ins229C b n c i vb vc size vsz tt vt ys olds w i0 hi0 hz0 hi hn hroom hsh hsz hf hsv hfv hvb hyl hys h1 hol holds h1o
  · intro b n c i vb vc ys olds front w hi hnc hroom hby hbw hvw hfl hfront hyl hys h1 hol holds h1o
    refine Calls.mono (ins229D b n c i vb vc ys olds front w i0 z hi0 hz0 hz hzs (by omega) hi hnc hroom (by rw [hb0]; exact hby) hbw hvw hfl hfront hyl hys h1 hol holds h1o) fun x w' h => ?_
    obtain ⟨ROW, h1, h2, h3, h4⟩ := h
    exact ⟨ROW, _, grownCap_ge w (n + 1) c 39, h1, h2, h3, h4⟩
end Go.Hand
namespace Go.Ab
open Go Go.Proofs
theorem insert229 (xs : List AV) (y : AV) (i : Nat) (hi : i ≤ xs.length) (hby : (xs.length + 1) * 32 ≤ 140737488355328) : SoundCall Go.Proofs.Tryz.prog Tryz.phi 229 [.sref (.inc 0) 0 xs.length, .int .i64 i, .sref (.inc 1) 0 1] [.row 4 xs true true, .row 4 [y] true true] ⟨.sref (.out 0) 0 (xs.length + 1), [.gone, .gone], [.row 4 (xs.take i ++ y :: xs.drop i) true true]⟩ :=
  insert_sound Go.Hand.ins229 Go.Proofs.Tryz.func229 (by kernel_rfl) (by kernel_rfl) (by decide) (by decide) hi hby
end Go.Ab
namespace Go.Hand
open Go Go.Proofs Go.RowKit Go.Extern.Stop Go.Stop Go.Extern
theorem rlm (z : Sem Value) (f : TypeId → Addr → Nat → Nat → Sem Value) (v : Value) :
    ReflectliteValue.method z f #[v] = (do match ← ReflectliteValue.parts v with | none => z | some (t, a, fl) => f t a fl (fl % 32)) := rfl
theorem rls (v x : Value) : ReflectliteValue.set #[v, x] = (do
    let (some (dst, a, fl), some (src, b, _)) := (← ReflectliteValue.parts v, ← ReflectliteValue.parts x)
      | unsupported (.noEntry "extern/(internal/reflectlite.Value).Set.zeroValue")
    if fl / ReflectliteValue.flagAddr % 2 == 0 then unsupported (.noEntry "extern/(internal/reflectlite.Value).Set.unaddressable")
    let val ← loadVar src b
    if ← Rtype.directlyAssignable dst src then storeVar dst a val
    else if ← Rtype.implements dst src then
      if (← Rtype.kind src) == 20 then
        match val with
        | .nilIface => unsupported (.noEntry "extern/reflectlite: a nil value of one interface type handed on as a value of another")
        | _ => storeVar dst a val
      else storeVar dst a (.iface src val)
    else panicString ("reflectlite.Set: value of type " ++ (← Rtype.spelt src) ++ " is not assignable to type " ++ (← Rtype.spelt dst))
    pure (.tuple #[])) := rfl
theorem valueOfP138 (x : Value) (w : World) : ((fun args => ReflectliteValue.unpack (args.getD 0 (.tuple #[]))) #[.iface 138 x]).run Tryz.prog w = .ok (.agg #[.pointer (some ⟨4, 138, none⟩), .pointer (some ⟨w.heap.size, 0, none⟩), .int .u64 150]) (w.alloc (.cells x.cells 138)) := by kernel_rfl
theorem valueOfE136 (x : Value) (w : World) : ((fun args => ReflectliteValue.unpack (args.getD 0 (.tuple #[]))) #[.iface 136 x]).run Tryz.prog w = .ok (.agg #[.pointer (some ⟨4, 136, none⟩), .pointer (some ⟨w.heap.size, 0, none⟩), .int .u64 153]) (w.alloc (.cells x.cells 136)) := by kernel_rfl
theorem type138 (a : Addr) (w : World) : (ReflectliteValue.methodAny (ReflectliteValue.valueError "reflectlite.Value.Type" 0) (fun t _ _ _ => ReflectliteType.toType t) #[.agg #[.pointer (some ⟨4, 138, none⟩), .pointer (some a), .int .u64 150]]).run Tryz.prog w = .ok (.iface 274 (.agg #[.pointer (some ⟨4, 138, none⟩)])) w := by kernel_rfl
theorem kindP138 (w : World) : ((ReflectliteType.abiMethod fun t => do pure (.int .u8 (← Rtype.kind t))) #[.pointer (some ⟨4, 138, none⟩)]).run Tryz.prog w = .ok (.int .u8 22) w := by kernel_rfl
theorem kindE136 (w : World) : ((ReflectliteType.abiMethod fun t => do pure (.int .u8 (← Rtype.kind t))) #[.pointer (some ⟨4, 136, none⟩)]).run Tryz.prog w = .ok (.int .u8 25) w := by kernel_rfl
theorem parts138 (a : Addr) (w : World) : (ReflectliteValue.parts (.agg #[.pointer (some ⟨4, 138, none⟩), .pointer (some a), .int .u64 150])).run Tryz.prog w = .ok (some (138, a, 150)) w := by kernel_rfl
theorem isNil138 (a p : Addr) (W : World) (ha : W.cell? a = some (.pointer (some p))) :
    (ReflectliteValue.method (ReflectliteValue.valueError "reflectlite.Value.IsNil" 0) ReflectliteValue.isNil #[.agg #[.pointer (some ⟨4, 138, none⟩), .pointer (some a), .int .u64 150]]).run Tryz.prog W = .ok (.bool false) W := by
  rw [rlm]
  simp only [Sem.run_bind, parts138, Result.andThen]
  simp [ReflectliteValue.isNil, loadVar, isAgg, underlying, Tryz.underlying138, ha, Result.andThen]
theorem elem138 (w : World) : (ReflectliteType.method ReflectliteType.elem #[.agg #[.pointer (some ⟨4, 138, none⟩)]]).run Tryz.prog w = .ok (.iface 274 (.agg #[.pointer (some ⟨4, 136, none⟩)])) w := by kernel_rfl
theorem implements136 (rt : TypeId) (w : World) : (ReflectliteType.relation "Implements" ReflectliteType.implements_ #[.agg #[.pointer (some ⟨4, 136, none⟩)], .iface rt (.agg #[.pointer (some ⟨4, 115, none⟩)])]).run Tryz.prog w = .ok (.bool true) w := by kernel_rfl
theorem elemOf138 (w : World) : (Rtype.elem? 138).run Tryz.prog w = .ok (some 136) w := by kernel_rfl
theorem mk136 (p : Addr) (w : World) : (ReflectliteValue.mk 136 p ReflectliteValue.flagAddr).run Tryz.prog w = .ok (.agg #[.pointer (some ⟨4, 136, none⟩), .pointer (some p), .int .u64 409]) w := by kernel_rfl
theorem elemV138 (a p : Addr) (W : World) (ha : W.cell? a = some (.pointer (some p))) :
    (ReflectliteValue.method (ReflectliteValue.valueError "reflectlite.Value.Elem" 0) ReflectliteValue.elem #[.agg #[.pointer (some ⟨4, 138, none⟩), .pointer (some a), .int .u64 150]]).run Tryz.prog W
      = .ok (.agg #[.pointer (some ⟨4, 136, none⟩), .pointer (some p), .int .u64 409]) W := by
  rw [rlm]
  simp only [Sem.run_bind, parts138, Result.andThen]
  simp [ReflectliteValue.elem, loadVar, isAgg, underlying, Tryz.underlying138, ha, Result.andThen, elemOf138, mk136]
theorem parts136a (a : Addr) (w : World) : (ReflectliteValue.parts (.agg #[.pointer (some ⟨4, 136, none⟩), .pointer (some a), .int .u64 409])).run Tryz.prog w = .ok (some (136, a, 409)) w := by kernel_rfl
theorem parts136 (a : Addr) (w : World) : (ReflectliteValue.parts (.agg #[.pointer (some ⟨4, 136, none⟩), .pointer (some a), .int .u64 153])).run Tryz.prog w = .ok (some (136, a, 153)) w := by kernel_rfl
theorem direct136 (w : World) : (Rtype.directlyAssignable 136 136).run Tryz.prog w = .ok true w := by kernel_rfl
theorem size136 (w : World) : (sizeOf 136).run Tryz.prog w = .ok 1 w := by kernel_rfl
theorem load136 (b : Addr) (x : Value) (W : World) (hb : W.cell? b = some x) : (loadVar 136 b).run Tryz.prog W = .ok (.agg #[x]) W := by
  have h0 : b.add 0 = b := by simp [Addr.add]
  simp [loadVar, isAgg, underlying, Tryz.underlying136, hb, Result.andThen, loadCells, loadCellsFrom, h0]
theorem set136 (ta b : Addr) (x old : Value) (W : World) (hb : W.cell? b = some x) (ht : W.cell? ta = some old) (hf : W.frozen? ta = false) (_hx : x.oneCell' = true) :
    (ReflectliteValue.set #[.agg #[.pointer (some ⟨4, 136, none⟩), .pointer (some ta), .int .u64 409], .agg #[.pointer (some ⟨4, 136, none⟩), .pointer (some b), .int .u64 153]]).run Tryz.prog W
      = .ok (.tuple #[]) (W.setCell ta x) := by
  rw [rls]
  have h0 : ta.add 0 = ta := by simp [Addr.add]
  simp only [Sem.run_bind, parts136a, parts136, Result.andThen]
  simp [ReflectliteValue.flagAddr, load136 b x W hb, Result.andThen, direct136, storeVar, Value.cells, storeCells, h0]
  rw [run_store Tryz.prog W ta _ _ _hx]
  simp [ht, hf]
theorem rel9_136 (rt : TypeId) (w : World) : (ReflectliteType.relation "AssignableTo" ReflectliteType.assignableTo #[.agg #[.pointer (some ⟨4, 9, none⟩)], .iface rt (.agg #[.pointer (some ⟨4, 136, none⟩)])]).run Go.Proofs.Tryz.prog w = .ok (.bool false) w := by kernel_rfl
theorem rel127_136 (rt : TypeId) (w : World) : (ReflectliteType.relation "AssignableTo" ReflectliteType.assignableTo #[.agg #[.pointer (some ⟨4, 127, none⟩)], .iface rt (.agg #[.pointer (some ⟨4, 136, none⟩)])]).run Go.Proofs.Tryz.prog w = .ok (.bool false) w := by kernel_rfl
theorem rel136_136 (rt : TypeId) (w : World) : (ReflectliteType.relation "AssignableTo" ReflectliteType.assignableTo #[.agg #[.pointer (some ⟨4, 136, none⟩)], .iface rt (.agg #[.pointer (some ⟨4, 136, none⟩)])]).run Go.Proofs.Tryz.prog w = .ok (.bool true) w := by kernel_rfl
theorem rel138_136 (rt : TypeId) (w : World) : (ReflectliteType.relation "AssignableTo" ReflectliteType.assignableTo #[.agg #[.pointer (some ⟨4, 138, none⟩)], .iface rt (.agg #[.pointer (some ⟨4, 136, none⟩)])]).run Go.Proofs.Tryz.prog w = .ok (.bool false) w := by kernel_rfl
theorem rel162_136 (rt : TypeId) (w : World) : (ReflectliteType.relation "AssignableTo" ReflectliteType.assignableTo #[.agg #[.pointer (some ⟨4, 162, none⟩)], .iface rt (.agg #[.pointer (some ⟨4, 136, none⟩)])]).run Go.Proofs.Tryz.prog w = .ok (.bool false) w := by kernel_rfl
theorem rel163_136 (rt : TypeId) (w : World) : (ReflectliteType.relation "AssignableTo" ReflectliteType.assignableTo #[.agg #[.pointer (some ⟨4, 163, none⟩)], .iface rt (.agg #[.pointer (some ⟨4, 136, none⟩)])]).run Go.Proofs.Tryz.prog w = .ok (.bool false) w := by kernel_rfl
theorem rel168_136 (rt : TypeId) (w : World) : (ReflectliteType.relation "AssignableTo" ReflectliteType.assignableTo #[.agg #[.pointer (some ⟨4, 168, none⟩)], .iface rt (.agg #[.pointer (some ⟨4, 136, none⟩)])]).run Go.Proofs.Tryz.prog w = .ok (.bool false) w := by kernel_rfl
theorem rel204_136 (rt : TypeId) (w : World) : (ReflectliteType.relation "AssignableTo" ReflectliteType.assignableTo #[.agg #[.pointer (some ⟨4, 204, none⟩)], .iface rt (.agg #[.pointer (some ⟨4, 136, none⟩)])]).run Go.Proofs.Tryz.prog w = .ok (.bool false) w := by kernel_rfl
theorem rel205_136 (rt : TypeId) (w : World) : (ReflectliteType.relation "AssignableTo" ReflectliteType.assignableTo #[.agg #[.pointer (some ⟨4, 205, none⟩)], .iface rt (.agg #[.pointer (some ⟨4, 136, none⟩)])]).run Go.Proofs.Tryz.prog w = .ok (.bool false) w := by kernel_rfl
theorem rel218_136 (rt : TypeId) (w : World) : (ReflectliteType.relation "AssignableTo" ReflectliteType.assignableTo #[.agg #[.pointer (some ⟨4, 218, none⟩)], .iface rt (.agg #[.pointer (some ⟨4, 136, none⟩)])]).run Go.Proofs.Tryz.prog w = .ok (.bool false) w := by kernel_rfl
theorem rel236_136 (rt : TypeId) (w : World) : (ReflectliteType.relation "AssignableTo" ReflectliteType.assignableTo #[.agg #[.pointer (some ⟨4, 236, none⟩)], .iface rt (.agg #[.pointer (some ⟨4, 136, none⟩)])]).run Go.Proofs.Tryz.prog w = .ok (.bool false) w := by kernel_rfl
theorem rel238_136 (rt : TypeId) (w : World) : (ReflectliteType.relation "AssignableTo" ReflectliteType.assignableTo #[.agg #[.pointer (some ⟨4, 238, none⟩)], .iface rt (.agg #[.pointer (some ⟨4, 136, none⟩)])]).run Go.Proofs.Tryz.prog w = .ok (.bool false) w := by kernel_rfl
theorem rel251_136 (rt : TypeId) (w : World) : (ReflectliteType.relation "AssignableTo" ReflectliteType.assignableTo #[.agg #[.pointer (some ⟨4, 251, none⟩)], .iface rt (.agg #[.pointer (some ⟨4, 136, none⟩)])]).run Go.Proofs.Tryz.prog w = .ok (.bool false) w := by kernel_rfl
theorem rel288_136 (rt : TypeId) (w : World) : (ReflectliteType.relation "AssignableTo" ReflectliteType.assignableTo #[.agg #[.pointer (some ⟨4, 288, none⟩)], .iface rt (.agg #[.pointer (some ⟨4, 136, none⟩)])]).run Go.Proofs.Tryz.prog w = .ok (.bool false) w := by kernel_rfl
theorem rel297_136 (rt : TypeId) (w : World) : (ReflectliteType.relation "AssignableTo" ReflectliteType.assignableTo #[.agg #[.pointer (some ⟨4, 297, none⟩)], .iface rt (.agg #[.pointer (some ⟨4, 136, none⟩)])]).run Go.Proofs.Tryz.prog w = .ok (.bool false) w := by kernel_rfl
theorem rel306_136 (rt : TypeId) (w : World) : (ReflectliteType.relation "AssignableTo" ReflectliteType.assignableTo #[.agg #[.pointer (some ⟨4, 306, none⟩)], .iface rt (.agg #[.pointer (some ⟨4, 136, none⟩)])]).run Go.Proofs.Tryz.prog w = .ok (.bool false) w := by kernel_rfl
theorem rel307_136 (rt : TypeId) (w : World) : (ReflectliteType.relation "AssignableTo" ReflectliteType.assignableTo #[.agg #[.pointer (some ⟨4, 307, none⟩)], .iface rt (.agg #[.pointer (some ⟨4, 136, none⟩)])]).run Go.Proofs.Tryz.prog w = .ok (.bool false) w := by kernel_rfl
theorem rel316_136 (rt : TypeId) (w : World) : (ReflectliteType.relation "AssignableTo" ReflectliteType.assignableTo #[.agg #[.pointer (some ⟨4, 316, none⟩)], .iface rt (.agg #[.pointer (some ⟨4, 136, none⟩)])]).run Go.Proofs.Tryz.prog w = .ok (.bool false) w := by kernel_rfl
theorem rel327_136 (rt : TypeId) (w : World) : (ReflectliteType.relation "AssignableTo" ReflectliteType.assignableTo #[.agg #[.pointer (some ⟨4, 327, none⟩)], .iface rt (.agg #[.pointer (some ⟨4, 136, none⟩)])]).run Go.Proofs.Tryz.prog w = .ok (.bool false) w := by kernel_rfl
theorem rel329_136 (rt : TypeId) (w : World) : (ReflectliteType.relation "AssignableTo" ReflectliteType.assignableTo #[.agg #[.pointer (some ⟨4, 329, none⟩)], .iface rt (.agg #[.pointer (some ⟨4, 136, none⟩)])]).run Go.Proofs.Tryz.prog w = .ok (.bool false) w := by kernel_rfl
theorem rel333_136 (rt : TypeId) (w : World) : (ReflectliteType.relation "AssignableTo" ReflectliteType.assignableTo #[.agg #[.pointer (some ⟨4, 333, none⟩)], .iface rt (.agg #[.pointer (some ⟨4, 136, none⟩)])]).run Go.Proofs.Tryz.prog w = .ok (.bool false) w := by kernel_rfl
theorem rel371_136 (rt : TypeId) (w : World) : (ReflectliteType.relation "AssignableTo" ReflectliteType.assignableTo #[.agg #[.pointer (some ⟨4, 371, none⟩)], .iface rt (.agg #[.pointer (some ⟨4, 136, none⟩)])]).run Go.Proofs.Tryz.prog w = .ok (.bool false) w := by kernel_rfl
theorem valueOfP163 (x : Value) (w : World) : ((fun args => ReflectliteValue.unpack (args.getD 0 (.tuple #[]))) #[.iface 163 x]).run Tryz.prog w = .ok (.agg #[.pointer (some ⟨4, 163, none⟩), .pointer (some ⟨w.heap.size, 0, none⟩), .int .u64 150]) (w.alloc (.cells x.cells 163)) := by kernel_rfl
theorem valueOfE162 (x : Value) (w : World) : ((fun args => ReflectliteValue.unpack (args.getD 0 (.tuple #[]))) #[.iface 162 x]).run Tryz.prog w = .ok (.agg #[.pointer (some ⟨4, 162, none⟩), .pointer (some ⟨w.heap.size, 0, none⟩), .int .u64 153]) (w.alloc (.cells x.cells 162)) := by kernel_rfl
theorem type163 (a : Addr) (w : World) : (ReflectliteValue.methodAny (ReflectliteValue.valueError "reflectlite.Value.Type" 0) (fun t _ _ _ => ReflectliteType.toType t) #[.agg #[.pointer (some ⟨4, 163, none⟩), .pointer (some a), .int .u64 150]]).run Tryz.prog w = .ok (.iface 274 (.agg #[.pointer (some ⟨4, 163, none⟩)])) w := by kernel_rfl
theorem kindP163 (w : World) : ((ReflectliteType.abiMethod fun t => do pure (.int .u8 (← Rtype.kind t))) #[.pointer (some ⟨4, 163, none⟩)]).run Tryz.prog w = .ok (.int .u8 22) w := by kernel_rfl
theorem kindE162 (w : World) : ((ReflectliteType.abiMethod fun t => do pure (.int .u8 (← Rtype.kind t))) #[.pointer (some ⟨4, 162, none⟩)]).run Tryz.prog w = .ok (.int .u8 25) w := by kernel_rfl
theorem parts163 (a : Addr) (w : World) : (ReflectliteValue.parts (.agg #[.pointer (some ⟨4, 163, none⟩), .pointer (some a), .int .u64 150])).run Tryz.prog w = .ok (some (163, a, 150)) w := by kernel_rfl
theorem isNil163 (a p : Addr) (W : World) (ha : W.cell? a = some (.pointer (some p))) :
    (ReflectliteValue.method (ReflectliteValue.valueError "reflectlite.Value.IsNil" 0) ReflectliteValue.isNil #[.agg #[.pointer (some ⟨4, 163, none⟩), .pointer (some a), .int .u64 150]]).run Tryz.prog W = .ok (.bool false) W := by
  rw [rlm]
  simp only [Sem.run_bind, parts163, Result.andThen]
  simp [ReflectliteValue.isNil, loadVar, isAgg, underlying, Tryz.underlying163, ha, Result.andThen]
theorem elem163 (w : World) : (ReflectliteType.method ReflectliteType.elem #[.agg #[.pointer (some ⟨4, 163, none⟩)]]).run Tryz.prog w = .ok (.iface 274 (.agg #[.pointer (some ⟨4, 162, none⟩)])) w := by kernel_rfl
theorem implements162 (rt : TypeId) (w : World) : (ReflectliteType.relation "Implements" ReflectliteType.implements_ #[.agg #[.pointer (some ⟨4, 162, none⟩)], .iface rt (.agg #[.pointer (some ⟨4, 115, none⟩)])]).run Tryz.prog w = .ok (.bool true) w := by kernel_rfl
theorem elemOf163 (w : World) : (Rtype.elem? 163).run Tryz.prog w = .ok (some 162) w := by kernel_rfl
theorem mk162 (p : Addr) (w : World) : (ReflectliteValue.mk 162 p ReflectliteValue.flagAddr).run Tryz.prog w = .ok (.agg #[.pointer (some ⟨4, 162, none⟩), .pointer (some p), .int .u64 409]) w := by kernel_rfl
theorem elemV163 (a p : Addr) (W : World) (ha : W.cell? a = some (.pointer (some p))) :
    (ReflectliteValue.method (ReflectliteValue.valueError "reflectlite.Value.Elem" 0) ReflectliteValue.elem #[.agg #[.pointer (some ⟨4, 163, none⟩), .pointer (some a), .int .u64 150]]).run Tryz.prog W
      = .ok (.agg #[.pointer (some ⟨4, 162, none⟩), .pointer (some p), .int .u64 409]) W := by
  rw [rlm]
  simp only [Sem.run_bind, parts163, Result.andThen]
  simp [ReflectliteValue.elem, loadVar, isAgg, underlying, Tryz.underlying163, ha, Result.andThen, elemOf163, mk162]
theorem parts162a (a : Addr) (w : World) : (ReflectliteValue.parts (.agg #[.pointer (some ⟨4, 162, none⟩), .pointer (some a), .int .u64 409])).run Tryz.prog w = .ok (some (162, a, 409)) w := by kernel_rfl
theorem parts162 (a : Addr) (w : World) : (ReflectliteValue.parts (.agg #[.pointer (some ⟨4, 162, none⟩), .pointer (some a), .int .u64 153])).run Tryz.prog w = .ok (some (162, a, 153)) w := by kernel_rfl
theorem direct162 (w : World) : (Rtype.directlyAssignable 162 162).run Tryz.prog w = .ok true w := by kernel_rfl
theorem size162 (w : World) : (sizeOf 162).run Tryz.prog w = .ok 1 w := by kernel_rfl
theorem load162 (b : Addr) (x : Value) (W : World) (hb : W.cell? b = some x) : (loadVar 162 b).run Tryz.prog W = .ok (.agg #[x]) W := by
  have h0 : b.add 0 = b := by simp [Addr.add]
  simp [loadVar, isAgg, underlying, Tryz.underlying162, hb, Result.andThen, loadCells, loadCellsFrom, h0]
theorem set162 (ta b : Addr) (x old : Value) (W : World) (hb : W.cell? b = some x) (ht : W.cell? ta = some old) (hf : W.frozen? ta = false) (_hx : x.oneCell' = true) :
    (ReflectliteValue.set #[.agg #[.pointer (some ⟨4, 162, none⟩), .pointer (some ta), .int .u64 409], .agg #[.pointer (some ⟨4, 162, none⟩), .pointer (some b), .int .u64 153]]).run Tryz.prog W
      = .ok (.tuple #[]) (W.setCell ta x) := by
  rw [rls]
  have h0 : ta.add 0 = ta := by simp [Addr.add]
  simp only [Sem.run_bind, parts162a, parts162, Result.andThen]
  simp [ReflectliteValue.flagAddr, load162 b x W hb, Result.andThen, direct162, storeVar, Value.cells, storeCells, h0]
  rw [run_store Tryz.prog W ta _ _ _hx]
  simp [ht, hf]
theorem rel9_162 (rt : TypeId) (w : World) : (ReflectliteType.relation "AssignableTo" ReflectliteType.assignableTo #[.agg #[.pointer (some ⟨4, 9, none⟩)], .iface rt (.agg #[.pointer (some ⟨4, 162, none⟩)])]).run Go.Proofs.Tryz.prog w = .ok (.bool false) w := by kernel_rfl
theorem rel127_162 (rt : TypeId) (w : World) : (ReflectliteType.relation "AssignableTo" ReflectliteType.assignableTo #[.agg #[.pointer (some ⟨4, 127, none⟩)], .iface rt (.agg #[.pointer (some ⟨4, 162, none⟩)])]).run Go.Proofs.Tryz.prog w = .ok (.bool false) w := by kernel_rfl
theorem rel136_162 (rt : TypeId) (w : World) : (ReflectliteType.relation "AssignableTo" ReflectliteType.assignableTo #[.agg #[.pointer (some ⟨4, 136, none⟩)], .iface rt (.agg #[.pointer (some ⟨4, 162, none⟩)])]).run Go.Proofs.Tryz.prog w = .ok (.bool false) w := by kernel_rfl
theorem rel138_162 (rt : TypeId) (w : World) : (ReflectliteType.relation "AssignableTo" ReflectliteType.assignableTo #[.agg #[.pointer (some ⟨4, 138, none⟩)], .iface rt (.agg #[.pointer (some ⟨4, 162, none⟩)])]).run Go.Proofs.Tryz.prog w = .ok (.bool false) w := by kernel_rfl
theorem rel162_162 (rt : TypeId) (w : World) : (ReflectliteType.relation "AssignableTo" ReflectliteType.assignableTo #[.agg #[.pointer (some ⟨4, 162, none⟩)], .iface rt (.agg #[.pointer (some ⟨4, 162, none⟩)])]).run Go.Proofs.Tryz.prog w = .ok (.bool true) w := by kernel_rfl
theorem rel163_162 (rt : TypeId) (w : World) : (ReflectliteType.relation "AssignableTo" ReflectliteType.assignableTo #[.agg #[.pointer (some ⟨4, 163, none⟩)], .iface rt (.agg #[.pointer (some ⟨4, 162, none⟩)])]).run Go.Proofs.Tryz.prog w = .ok (.bool false) w := by kernel_rfl
theorem rel168_162 (rt : TypeId) (w : World) : (ReflectliteType.relation "AssignableTo" ReflectliteType.assignableTo #[.agg #[.pointer (some ⟨4, 168, none⟩)], .iface rt (.agg #[.pointer (some ⟨4, 162, none⟩)])]).run Go.Proofs.Tryz.prog w = .ok (.bool false) w := by kernel_rfl
theorem rel204_162 (rt : TypeId) (w : World) : (ReflectliteType.relation "AssignableTo" ReflectliteType.assignableTo #[.agg #[.pointer (some ⟨4, 204, none⟩)], .iface rt (.agg #[.pointer (some ⟨4, 162, none⟩)])]).run Go.Proofs.Tryz.prog w = .ok (.bool false) w := by kernel_rfl
theorem rel205_162 (rt : TypeId) (w : World) : (ReflectliteType.relation "AssignableTo" ReflectliteType.assignableTo #[.agg #[.pointer (some ⟨4, 205, none⟩)], .iface rt (.agg #[.pointer (some ⟨4, 162, none⟩)])]).run Go.Proofs.Tryz.prog w = .ok (.bool false) w := by kernel_rfl
theorem rel218_162 (rt : TypeId) (w : World) : (ReflectliteType.relation "AssignableTo" ReflectliteType.assignableTo #[.agg #[.pointer (some ⟨4, 218, none⟩)], .iface rt (.agg #[.pointer (some ⟨4, 162, none⟩)])]).run Go.Proofs.Tryz.prog w = .ok (.bool false) w := by kernel_rfl
theorem rel236_162 (rt : TypeId) (w : World) : (ReflectliteType.relation "AssignableTo" ReflectliteType.assignableTo #[.agg #[.pointer (some ⟨4, 236, none⟩)], .iface rt (.agg #[.pointer (some ⟨4, 162, none⟩)])]).run Go.Proofs.Tryz.prog w = .ok (.bool false) w := by kernel_rfl
theorem rel238_162 (rt : TypeId) (w : World) : (ReflectliteType.relation "AssignableTo" ReflectliteType.assignableTo #[.agg #[.pointer (some ⟨4, 238, none⟩)], .iface rt (.agg #[.pointer (some ⟨4, 162, none⟩)])]).run Go.Proofs.Tryz.prog w = .ok (.bool false) w := by kernel_rfl
theorem rel251_162 (rt : TypeId) (w : World) : (ReflectliteType.relation "AssignableTo" ReflectliteType.assignableTo #[.agg #[.pointer (some ⟨4, 251, none⟩)], .iface rt (.agg #[.pointer (some ⟨4, 162, none⟩)])]).run Go.Proofs.Tryz.prog w = .ok (.bool false) w := by kernel_rfl
theorem rel288_162 (rt : TypeId) (w : World) : (ReflectliteType.relation "AssignableTo" ReflectliteType.assignableTo #[.agg #[.pointer (some ⟨4, 288, none⟩)], .iface rt (.agg #[.pointer (some ⟨4, 162, none⟩)])]).run Go.Proofs.Tryz.prog w = .ok (.bool false) w := by kernel_rfl
theorem rel297_162 (rt : TypeId) (w : World) : (ReflectliteType.relation "AssignableTo" ReflectliteType.assignableTo #[.agg #[.pointer (some ⟨4, 297, none⟩)], .iface rt (.agg #[.pointer (some ⟨4, 162, none⟩)])]).run Go.Proofs.Tryz.prog w = .ok (.bool false) w := by kernel_rfl
theorem rel306_162 (rt : TypeId) (w : World) : (ReflectliteType.relation "AssignableTo" ReflectliteType.assignableTo #[.agg #[.pointer (some ⟨4, 306, none⟩)], .iface rt (.agg #[.pointer (some ⟨4, 162, none⟩)])]).run Go.Proofs.Tryz.prog w = .ok (.bool false) w := by kernel_rfl
theorem rel307_162 (rt : TypeId) (w : World) : (ReflectliteType.relation "AssignableTo" ReflectliteType.assignableTo #[.agg #[.pointer (some ⟨4, 307, none⟩)], .iface rt (.agg #[.pointer (some ⟨4, 162, none⟩)])]).run Go.Proofs.Tryz.prog w = .ok (.bool false) w := by kernel_rfl
theorem rel316_162 (rt : TypeId) (w : World) : (ReflectliteType.relation "AssignableTo" ReflectliteType.assignableTo #[.agg #[.pointer (some ⟨4, 316, none⟩)], .iface rt (.agg #[.pointer (some ⟨4, 162, none⟩)])]).run Go.Proofs.Tryz.prog w = .ok (.bool false) w := by kernel_rfl
theorem rel327_162 (rt : TypeId) (w : World) : (ReflectliteType.relation "AssignableTo" ReflectliteType.assignableTo #[.agg #[.pointer (some ⟨4, 327, none⟩)], .iface rt (.agg #[.pointer (some ⟨4, 162, none⟩)])]).run Go.Proofs.Tryz.prog w = .ok (.bool false) w := by kernel_rfl
theorem rel329_162 (rt : TypeId) (w : World) : (ReflectliteType.relation "AssignableTo" ReflectliteType.assignableTo #[.agg #[.pointer (some ⟨4, 329, none⟩)], .iface rt (.agg #[.pointer (some ⟨4, 162, none⟩)])]).run Go.Proofs.Tryz.prog w = .ok (.bool false) w := by kernel_rfl
theorem rel333_162 (rt : TypeId) (w : World) : (ReflectliteType.relation "AssignableTo" ReflectliteType.assignableTo #[.agg #[.pointer (some ⟨4, 333, none⟩)], .iface rt (.agg #[.pointer (some ⟨4, 162, none⟩)])]).run Go.Proofs.Tryz.prog w = .ok (.bool false) w := by kernel_rfl
theorem rel371_162 (rt : TypeId) (w : World) : (ReflectliteType.relation "AssignableTo" ReflectliteType.assignableTo #[.agg #[.pointer (some ⟨4, 371, none⟩)], .iface rt (.agg #[.pointer (some ⟨4, 162, none⟩)])]).run Go.Proofs.Tryz.prog w = .ok (.bool false) w := by kernel_rfl
theorem valueOfP205 (x : Value) (w : World) : ((fun args => ReflectliteValue.unpack (args.getD 0 (.tuple #[]))) #[.iface 205 x]).run Tryz.prog w = .ok (.agg #[.pointer (some ⟨4, 205, none⟩), .pointer (some ⟨w.heap.size, 0, none⟩), .int .u64 150]) (w.alloc (.cells x.cells 205)) := by kernel_rfl
theorem valueOfE127 (x : Value) (w : World) : ((fun args => ReflectliteValue.unpack (args.getD 0 (.tuple #[]))) #[.iface 127 x]).run Tryz.prog w = .ok (.agg #[.pointer (some ⟨4, 127, none⟩), .pointer (some ⟨w.heap.size, 0, none⟩), .int .u64 153]) (w.alloc (.cells x.cells 127)) := by kernel_rfl
theorem type205 (a : Addr) (w : World) : (ReflectliteValue.methodAny (ReflectliteValue.valueError "reflectlite.Value.Type" 0) (fun t _ _ _ => ReflectliteType.toType t) #[.agg #[.pointer (some ⟨4, 205, none⟩), .pointer (some a), .int .u64 150]]).run Tryz.prog w = .ok (.iface 274 (.agg #[.pointer (some ⟨4, 205, none⟩)])) w := by kernel_rfl
theorem kindP205 (w : World) : ((ReflectliteType.abiMethod fun t => do pure (.int .u8 (← Rtype.kind t))) #[.pointer (some ⟨4, 205, none⟩)]).run Tryz.prog w = .ok (.int .u8 22) w := by kernel_rfl
theorem kindE127 (w : World) : ((ReflectliteType.abiMethod fun t => do pure (.int .u8 (← Rtype.kind t))) #[.pointer (some ⟨4, 127, none⟩)]).run Tryz.prog w = .ok (.int .u8 25) w := by kernel_rfl
theorem parts205 (a : Addr) (w : World) : (ReflectliteValue.parts (.agg #[.pointer (some ⟨4, 205, none⟩), .pointer (some a), .int .u64 150])).run Tryz.prog w = .ok (some (205, a, 150)) w := by kernel_rfl
theorem isNil205 (a p : Addr) (W : World) (ha : W.cell? a = some (.pointer (some p))) :
    (ReflectliteValue.method (ReflectliteValue.valueError "reflectlite.Value.IsNil" 0) ReflectliteValue.isNil #[.agg #[.pointer (some ⟨4, 205, none⟩), .pointer (some a), .int .u64 150]]).run Tryz.prog W = .ok (.bool false) W := by
  rw [rlm]
  simp only [Sem.run_bind, parts205, Result.andThen]
  simp [ReflectliteValue.isNil, loadVar, isAgg, underlying, Tryz.underlying205, ha, Result.andThen]
theorem elem205 (w : World) : (ReflectliteType.method ReflectliteType.elem #[.agg #[.pointer (some ⟨4, 205, none⟩)]]).run Tryz.prog w = .ok (.iface 274 (.agg #[.pointer (some ⟨4, 127, none⟩)])) w := by kernel_rfl
theorem implements127 (rt : TypeId) (w : World) : (ReflectliteType.relation "Implements" ReflectliteType.implements_ #[.agg #[.pointer (some ⟨4, 127, none⟩)], .iface rt (.agg #[.pointer (some ⟨4, 115, none⟩)])]).run Tryz.prog w = .ok (.bool true) w := by kernel_rfl
theorem elemOf205 (w : World) : (Rtype.elem? 205).run Tryz.prog w = .ok (some 127) w := by kernel_rfl
theorem mk127 (p : Addr) (w : World) : (ReflectliteValue.mk 127 p ReflectliteValue.flagAddr).run Tryz.prog w = .ok (.agg #[.pointer (some ⟨4, 127, none⟩), .pointer (some p), .int .u64 409]) w := by kernel_rfl
theorem elemV205 (a p : Addr) (W : World) (ha : W.cell? a = some (.pointer (some p))) :
    (ReflectliteValue.method (ReflectliteValue.valueError "reflectlite.Value.Elem" 0) ReflectliteValue.elem #[.agg #[.pointer (some ⟨4, 205, none⟩), .pointer (some a), .int .u64 150]]).run Tryz.prog W
      = .ok (.agg #[.pointer (some ⟨4, 127, none⟩), .pointer (some p), .int .u64 409]) W := by
  rw [rlm]
  simp only [Sem.run_bind, parts205, Result.andThen]
  simp [ReflectliteValue.elem, loadVar, isAgg, underlying, Tryz.underlying205, ha, Result.andThen, elemOf205, mk127]
theorem parts127a (a : Addr) (w : World) : (ReflectliteValue.parts (.agg #[.pointer (some ⟨4, 127, none⟩), .pointer (some a), .int .u64 409])).run Tryz.prog w = .ok (some (127, a, 409)) w := by kernel_rfl
theorem parts127 (a : Addr) (w : World) : (ReflectliteValue.parts (.agg #[.pointer (some ⟨4, 127, none⟩), .pointer (some a), .int .u64 153])).run Tryz.prog w = .ok (some (127, a, 153)) w := by kernel_rfl
theorem direct127 (w : World) : (Rtype.directlyAssignable 127 127).run Tryz.prog w = .ok true w := by kernel_rfl
theorem size127 (w : World) : (sizeOf 127).run Tryz.prog w = .ok 1 w := by kernel_rfl
theorem load127 (b : Addr) (x : Value) (W : World) (hb : W.cell? b = some x) : (loadVar 127 b).run Tryz.prog W = .ok (.agg #[x]) W := by
  have h0 : b.add 0 = b := by simp [Addr.add]
  simp [loadVar, isAgg, underlying, Tryz.underlying127, hb, Result.andThen, loadCells, loadCellsFrom, h0]
theorem set127 (ta b : Addr) (x old : Value) (W : World) (hb : W.cell? b = some x) (ht : W.cell? ta = some old) (hf : W.frozen? ta = false) (_hx : x.oneCell' = true) :
    (ReflectliteValue.set #[.agg #[.pointer (some ⟨4, 127, none⟩), .pointer (some ta), .int .u64 409], .agg #[.pointer (some ⟨4, 127, none⟩), .pointer (some b), .int .u64 153]]).run Tryz.prog W
      = .ok (.tuple #[]) (W.setCell ta x) := by
  rw [rls]
  have h0 : ta.add 0 = ta := by simp [Addr.add]
  simp only [Sem.run_bind, parts127a, parts127, Result.andThen]
  simp [ReflectliteValue.flagAddr, load127 b x W hb, Result.andThen, direct127, storeVar, Value.cells, storeCells, h0]
  rw [run_store Tryz.prog W ta _ _ _hx]
  simp [ht, hf]
theorem rel9_127 (rt : TypeId) (w : World) : (ReflectliteType.relation "AssignableTo" ReflectliteType.assignableTo #[.agg #[.pointer (some ⟨4, 9, none⟩)], .iface rt (.agg #[.pointer (some ⟨4, 127, none⟩)])]).run Go.Proofs.Tryz.prog w = .ok (.bool false) w := by kernel_rfl
theorem rel127_127 (rt : TypeId) (w : World) : (ReflectliteType.relation "AssignableTo" ReflectliteType.assignableTo #[.agg #[.pointer (some ⟨4, 127, none⟩)], .iface rt (.agg #[.pointer (some ⟨4, 127, none⟩)])]).run Go.Proofs.Tryz.prog w = .ok (.bool true) w := by kernel_rfl
theorem rel136_127 (rt : TypeId) (w : World) : (ReflectliteType.relation "AssignableTo" ReflectliteType.assignableTo #[.agg #[.pointer (some ⟨4, 136, none⟩)], .iface rt (.agg #[.pointer (some ⟨4, 127, none⟩)])]).run Go.Proofs.Tryz.prog w = .ok (.bool false) w := by kernel_rfl
theorem rel138_127 (rt : TypeId) (w : World) : (ReflectliteType.relation "AssignableTo" ReflectliteType.assignableTo #[.agg #[.pointer (some ⟨4, 138, none⟩)], .iface rt (.agg #[.pointer (some ⟨4, 127, none⟩)])]).run Go.Proofs.Tryz.prog w = .ok (.bool false) w := by kernel_rfl
theorem rel162_127 (rt : TypeId) (w : World) : (ReflectliteType.relation "AssignableTo" ReflectliteType.assignableTo #[.agg #[.pointer (some ⟨4, 162, none⟩)], .iface rt (.agg #[.pointer (some ⟨4, 127, none⟩)])]).run Go.Proofs.Tryz.prog w = .ok (.bool false) w := by kernel_rfl
theorem rel163_127 (rt : TypeId) (w : World) : (ReflectliteType.relation "AssignableTo" ReflectliteType.assignableTo #[.agg #[.pointer (some ⟨4, 163, none⟩)], .iface rt (.agg #[.pointer (some ⟨4, 127, none⟩)])]).run Go.Proofs.Tryz.prog w = .ok (.bool false) w := by kernel_rfl
theorem rel168_127 (rt : TypeId) (w : World) : (ReflectliteType.relation "AssignableTo" ReflectliteType.assignableTo #[.agg #[.pointer (some ⟨4, 168, none⟩)], .iface rt (.agg #[.pointer (some ⟨4, 127, none⟩)])]).run Go.Proofs.Tryz.prog w = .ok (.bool false) w := by kernel_rfl
theorem rel204_127 (rt : TypeId) (w : World) : (ReflectliteType.relation "AssignableTo" ReflectliteType.assignableTo #[.agg #[.pointer (some ⟨4, 204, none⟩)], .iface rt (.agg #[.pointer (some ⟨4, 127, none⟩)])]).run Go.Proofs.Tryz.prog w = .ok (.bool false) w := by kernel_rfl
theorem rel205_127 (rt : TypeId) (w : World) : (ReflectliteType.relation "AssignableTo" ReflectliteType.assignableTo #[.agg #[.pointer (some ⟨4, 205, none⟩)], .iface rt (.agg #[.pointer (some ⟨4, 127, none⟩)])]).run Go.Proofs.Tryz.prog w = .ok (.bool false) w := by kernel_rfl
theorem rel218_127 (rt : TypeId) (w : World) : (ReflectliteType.relation "AssignableTo" ReflectliteType.assignableTo #[.agg #[.pointer (some ⟨4, 218, none⟩)], .iface rt (.agg #[.pointer (some ⟨4, 127, none⟩)])]).run Go.Proofs.Tryz.prog w = .ok (.bool false) w := by kernel_rfl
theorem rel236_127 (rt : TypeId) (w : World) : (ReflectliteType.relation "AssignableTo" ReflectliteType.assignableTo #[.agg #[.pointer (some ⟨4, 236, none⟩)], .iface rt (.agg #[.pointer (some ⟨4, 127, none⟩)])]).run Go.Proofs.Tryz.prog w = .ok (.bool false) w := by kernel_rfl
theorem rel238_127 (rt : TypeId) (w : World) : (ReflectliteType.relation "AssignableTo" ReflectliteType.assignableTo #[.agg #[.pointer (some ⟨4, 238, none⟩)], .iface rt (.agg #[.pointer (some ⟨4, 127, none⟩)])]).run Go.Proofs.Tryz.prog w = .ok (.bool false) w := by kernel_rfl
theorem rel251_127 (rt : TypeId) (w : World) : (ReflectliteType.relation "AssignableTo" ReflectliteType.assignableTo #[.agg #[.pointer (some ⟨4, 251, none⟩)], .iface rt (.agg #[.pointer (some ⟨4, 127, none⟩)])]).run Go.Proofs.Tryz.prog w = .ok (.bool false) w := by kernel_rfl
theorem rel288_127 (rt : TypeId) (w : World) : (ReflectliteType.relation "AssignableTo" ReflectliteType.assignableTo #[.agg #[.pointer (some ⟨4, 288, none⟩)], .iface rt (.agg #[.pointer (some ⟨4, 127, none⟩)])]).run Go.Proofs.Tryz.prog w = .ok (.bool false) w := by kernel_rfl
theorem rel297_127 (rt : TypeId) (w : World) : (ReflectliteType.relation "AssignableTo" ReflectliteType.assignableTo #[.agg #[.pointer (some ⟨4, 297, none⟩)], .iface rt (.agg #[.pointer (some ⟨4, 127, none⟩)])]).run Go.Proofs.Tryz.prog w = .ok (.bool false) w := by kernel_rfl
theorem rel306_127 (rt : TypeId) (w : World) : (ReflectliteType.relation "AssignableTo" ReflectliteType.assignableTo #[.agg #[.pointer (some ⟨4, 306, none⟩)], .iface rt (.agg #[.pointer (some ⟨4, 127, none⟩)])]).run Go.Proofs.Tryz.prog w = .ok (.bool false) w := by kernel_rfl
theorem rel307_127 (rt : TypeId) (w : World) : (ReflectliteType.relation "AssignableTo" ReflectliteType.assignableTo #[.agg #[.pointer (some ⟨4, 307, none⟩)], .iface rt (.agg #[.pointer (some ⟨4, 127, none⟩)])]).run Go.Proofs.Tryz.prog w = .ok (.bool false) w := by kernel_rfl
theorem rel316_127 (rt : TypeId) (w : World) : (ReflectliteType.relation "AssignableTo" ReflectliteType.assignableTo #[.agg #[.pointer (some ⟨4, 316, none⟩)], .iface rt (.agg #[.pointer (some ⟨4, 127, none⟩)])]).run Go.Proofs.Tryz.prog w = .ok (.bool false) w := by kernel_rfl
theorem rel327_127 (rt : TypeId) (w : World) : (ReflectliteType.relation "AssignableTo" ReflectliteType.assignableTo #[.agg #[.pointer (some ⟨4, 327, none⟩)], .iface rt (.agg #[.pointer (some ⟨4, 127, none⟩)])]).run Go.Proofs.Tryz.prog w = .ok (.bool false) w := by kernel_rfl
theorem rel329_127 (rt : TypeId) (w : World) : (ReflectliteType.relation "AssignableTo" ReflectliteType.assignableTo #[.agg #[.pointer (some ⟨4, 329, none⟩)], .iface rt (.agg #[.pointer (some ⟨4, 127, none⟩)])]).run Go.Proofs.Tryz.prog w = .ok (.bool false) w := by kernel_rfl
theorem rel333_127 (rt : TypeId) (w : World) : (ReflectliteType.relation "AssignableTo" ReflectliteType.assignableTo #[.agg #[.pointer (some ⟨4, 333, none⟩)], .iface rt (.agg #[.pointer (some ⟨4, 127, none⟩)])]).run Go.Proofs.Tryz.prog w = .ok (.bool false) w := by kernel_rfl
theorem rel371_127 (rt : TypeId) (w : World) : (ReflectliteType.relation "AssignableTo" ReflectliteType.assignableTo #[.agg #[.pointer (some ⟨4, 371, none⟩)], .iface rt (.agg #[.pointer (some ⟨4, 127, none⟩)])]).run Go.Proofs.Tryz.prog w = .ok (.bool false) w := by kernel_rfl
theorem valueOfP238 (x : Value) (w : World) : ((fun args => ReflectliteValue.unpack (args.getD 0 (.tuple #[]))) #[.iface 238 x]).run Tryz.prog w = .ok (.agg #[.pointer (some ⟨4, 238, none⟩), .pointer (some ⟨w.heap.size, 0, none⟩), .int .u64 150]) (w.alloc (.cells x.cells 238)) := by kernel_rfl
theorem valueOfE236 (x : Value) (w : World) : ((fun args => ReflectliteValue.unpack (args.getD 0 (.tuple #[]))) #[.iface 236 x]).run Tryz.prog w = .ok (.agg #[.pointer (some ⟨4, 236, none⟩), .pointer (some ⟨w.heap.size, 0, none⟩), .int .u64 150]) (w.alloc (.cells x.cells 236)) := by kernel_rfl
theorem type238 (a : Addr) (w : World) : (ReflectliteValue.methodAny (ReflectliteValue.valueError "reflectlite.Value.Type" 0) (fun t _ _ _ => ReflectliteType.toType t) #[.agg #[.pointer (some ⟨4, 238, none⟩), .pointer (some a), .int .u64 150]]).run Tryz.prog w = .ok (.iface 274 (.agg #[.pointer (some ⟨4, 238, none⟩)])) w := by kernel_rfl
theorem kindP238 (w : World) : ((ReflectliteType.abiMethod fun t => do pure (.int .u8 (← Rtype.kind t))) #[.pointer (some ⟨4, 238, none⟩)]).run Tryz.prog w = .ok (.int .u8 22) w := by kernel_rfl
theorem kindE236 (w : World) : ((ReflectliteType.abiMethod fun t => do pure (.int .u8 (← Rtype.kind t))) #[.pointer (some ⟨4, 236, none⟩)]).run Tryz.prog w = .ok (.int .u8 22) w := by kernel_rfl
theorem parts238 (a : Addr) (w : World) : (ReflectliteValue.parts (.agg #[.pointer (some ⟨4, 238, none⟩), .pointer (some a), .int .u64 150])).run Tryz.prog w = .ok (some (238, a, 150)) w := by kernel_rfl
theorem isNil238 (a p : Addr) (W : World) (ha : W.cell? a = some (.pointer (some p))) :
    (ReflectliteValue.method (ReflectliteValue.valueError "reflectlite.Value.IsNil" 0) ReflectliteValue.isNil #[.agg #[.pointer (some ⟨4, 238, none⟩), .pointer (some a), .int .u64 150]]).run Tryz.prog W = .ok (.bool false) W := by
  rw [rlm]
  simp only [Sem.run_bind, parts238, Result.andThen]
  simp [ReflectliteValue.isNil, loadVar, isAgg, underlying, Tryz.underlying238, ha, Result.andThen]
theorem elem238 (w : World) : (ReflectliteType.method ReflectliteType.elem #[.agg #[.pointer (some ⟨4, 238, none⟩)]]).run Tryz.prog w = .ok (.iface 274 (.agg #[.pointer (some ⟨4, 236, none⟩)])) w := by kernel_rfl
theorem implements236 (rt : TypeId) (w : World) : (ReflectliteType.relation "Implements" ReflectliteType.implements_ #[.agg #[.pointer (some ⟨4, 236, none⟩)], .iface rt (.agg #[.pointer (some ⟨4, 115, none⟩)])]).run Tryz.prog w = .ok (.bool true) w := by kernel_rfl
theorem elemOf238 (w : World) : (Rtype.elem? 238).run Tryz.prog w = .ok (some 236) w := by kernel_rfl
theorem mk236 (p : Addr) (w : World) : (ReflectliteValue.mk 236 p ReflectliteValue.flagAddr).run Tryz.prog w = .ok (.agg #[.pointer (some ⟨4, 236, none⟩), .pointer (some p), .int .u64 406]) w := by kernel_rfl
theorem elemV238 (a p : Addr) (W : World) (ha : W.cell? a = some (.pointer (some p))) :
    (ReflectliteValue.method (ReflectliteValue.valueError "reflectlite.Value.Elem" 0) ReflectliteValue.elem #[.agg #[.pointer (some ⟨4, 238, none⟩), .pointer (some a), .int .u64 150]]).run Tryz.prog W
      = .ok (.agg #[.pointer (some ⟨4, 236, none⟩), .pointer (some p), .int .u64 406]) W := by
  rw [rlm]
  simp only [Sem.run_bind, parts238, Result.andThen]
  simp [ReflectliteValue.elem, loadVar, isAgg, underlying, Tryz.underlying238, ha, Result.andThen, elemOf238, mk236]
theorem parts236a (a : Addr) (w : World) : (ReflectliteValue.parts (.agg #[.pointer (some ⟨4, 236, none⟩), .pointer (some a), .int .u64 406])).run Tryz.prog w = .ok (some (236, a, 406)) w := by kernel_rfl
theorem parts236 (a : Addr) (w : World) : (ReflectliteValue.parts (.agg #[.pointer (some ⟨4, 236, none⟩), .pointer (some a), .int .u64 150])).run Tryz.prog w = .ok (some (236, a, 150)) w := by kernel_rfl
theorem direct236 (w : World) : (Rtype.directlyAssignable 236 236).run Tryz.prog w = .ok true w := by kernel_rfl
theorem size236 (w : World) : (sizeOf 236).run Tryz.prog w = .ok 1 w := by kernel_rfl
theorem load236 (b : Addr) (x : Value) (W : World) (hb : W.cell? b = some x) : (loadVar 236 b).run Tryz.prog W = .ok x W := by
  simp [loadVar, isAgg, underlying, Tryz.underlying236, hb, Result.andThen]
theorem set236 (ta b : Addr) (x old : Value) (W : World) (hb : W.cell? b = some x) (ht : W.cell? ta = some old) (hf : W.frozen? ta = false) (_hx : x.oneCell' = true) :
    (ReflectliteValue.set #[.agg #[.pointer (some ⟨4, 236, none⟩), .pointer (some ta), .int .u64 406], .agg #[.pointer (some ⟨4, 236, none⟩), .pointer (some b), .int .u64 150]]).run Tryz.prog W
      = .ok (.tuple #[]) (W.setCell ta x) := by
  rw [rls]
  have h0 : ta.add 0 = ta := by simp [Addr.add]
  simp only [Sem.run_bind, parts236a, parts236, Result.andThen]
  simp [ReflectliteValue.flagAddr, load236 b x W hb, Result.andThen, direct236, storeVar, Go.Ab.cells1 _hx, storeCells, h0]
  rw [run_store Tryz.prog W ta _ _ _hx]
  simp [ht, hf]
theorem rel9_236 (rt : TypeId) (w : World) : (ReflectliteType.relation "AssignableTo" ReflectliteType.assignableTo #[.agg #[.pointer (some ⟨4, 9, none⟩)], .iface rt (.agg #[.pointer (some ⟨4, 236, none⟩)])]).run Go.Proofs.Tryz.prog w = .ok (.bool false) w := by kernel_rfl
theorem rel127_236 (rt : TypeId) (w : World) : (ReflectliteType.relation "AssignableTo" ReflectliteType.assignableTo #[.agg #[.pointer (some ⟨4, 127, none⟩)], .iface rt (.agg #[.pointer (some ⟨4, 236, none⟩)])]).run Go.Proofs.Tryz.prog w = .ok (.bool false) w := by kernel_rfl
theorem rel136_236 (rt : TypeId) (w : World) : (ReflectliteType.relation "AssignableTo" ReflectliteType.assignableTo #[.agg #[.pointer (some ⟨4, 136, none⟩)], .iface rt (.agg #[.pointer (some ⟨4, 236, none⟩)])]).run Go.Proofs.Tryz.prog w = .ok (.bool false) w := by kernel_rfl
theorem rel138_236 (rt : TypeId) (w : World) : (ReflectliteType.relation "AssignableTo" ReflectliteType.assignableTo #[.agg #[.pointer (some ⟨4, 138, none⟩)], .iface rt (.agg #[.pointer (some ⟨4, 236, none⟩)])]).run Go.Proofs.Tryz.prog w = .ok (.bool false) w := by kernel_rfl
theorem rel162_236 (rt : TypeId) (w : World) : (ReflectliteType.relation "AssignableTo" ReflectliteType.assignableTo #[.agg #[.pointer (some ⟨4, 162, none⟩)], .iface rt (.agg #[.pointer (some ⟨4, 236, none⟩)])]).run Go.Proofs.Tryz.prog w = .ok (.bool false) w := by kernel_rfl
theorem rel163_236 (rt : TypeId) (w : World) : (ReflectliteType.relation "AssignableTo" ReflectliteType.assignableTo #[.agg #[.pointer (some ⟨4, 163, none⟩)], .iface rt (.agg #[.pointer (some ⟨4, 236, none⟩)])]).run Go.Proofs.Tryz.prog w = .ok (.bool false) w := by kernel_rfl
theorem rel168_236 (rt : TypeId) (w : World) : (ReflectliteType.relation "AssignableTo" ReflectliteType.assignableTo #[.agg #[.pointer (some ⟨4, 168, none⟩)], .iface rt (.agg #[.pointer (some ⟨4, 236, none⟩)])]).run Go.Proofs.Tryz.prog w = .ok (.bool false) w := by kernel_rfl
theorem rel204_236 (rt : TypeId) (w : World) : (ReflectliteType.relation "AssignableTo" ReflectliteType.assignableTo #[.agg #[.pointer (some ⟨4, 204, none⟩)], .iface rt (.agg #[.pointer (some ⟨4, 236, none⟩)])]).run Go.Proofs.Tryz.prog w = .ok (.bool false) w := by kernel_rfl
theorem rel205_236 (rt : TypeId) (w : World) : (ReflectliteType.relation "AssignableTo" ReflectliteType.assignableTo #[.agg #[.pointer (some ⟨4, 205, none⟩)], .iface rt (.agg #[.pointer (some ⟨4, 236, none⟩)])]).run Go.Proofs.Tryz.prog w = .ok (.bool false) w := by kernel_rfl
theorem rel218_236 (rt : TypeId) (w : World) : (ReflectliteType.relation "AssignableTo" ReflectliteType.assignableTo #[.agg #[.pointer (some ⟨4, 218, none⟩)], .iface rt (.agg #[.pointer (some ⟨4, 236, none⟩)])]).run Go.Proofs.Tryz.prog w = .ok (.bool false) w := by kernel_rfl
theorem rel236_236 (rt : TypeId) (w : World) : (ReflectliteType.relation "AssignableTo" ReflectliteType.assignableTo #[.agg #[.pointer (some ⟨4, 236, none⟩)], .iface rt (.agg #[.pointer (some ⟨4, 236, none⟩)])]).run Go.Proofs.Tryz.prog w = .ok (.bool true) w := by kernel_rfl
theorem rel238_236 (rt : TypeId) (w : World) : (ReflectliteType.relation "AssignableTo" ReflectliteType.assignableTo #[.agg #[.pointer (some ⟨4, 238, none⟩)], .iface rt (.agg #[.pointer (some ⟨4, 236, none⟩)])]).run Go.Proofs.Tryz.prog w = .ok (.bool false) w := by kernel_rfl
theorem rel251_236 (rt : TypeId) (w : World) : (ReflectliteType.relation "AssignableTo" ReflectliteType.assignableTo #[.agg #[.pointer (some ⟨4, 251, none⟩)], .iface rt (.agg #[.pointer (some ⟨4, 236, none⟩)])]).run Go.Proofs.Tryz.prog w = .ok (.bool false) w := by kernel_rfl
theorem rel288_236 (rt : TypeId) (w : World) : (ReflectliteType.relation "AssignableTo" ReflectliteType.assignableTo #[.agg #[.pointer (some ⟨4, 288, none⟩)], .iface rt (.agg #[.pointer (some ⟨4, 236, none⟩)])]).run Go.Proofs.Tryz.prog w = .ok (.bool false) w := by kernel_rfl
theorem rel297_236 (rt : TypeId) (w : World) : (ReflectliteType.relation "AssignableTo" ReflectliteType.assignableTo #[.agg #[.pointer (some ⟨4, 297, none⟩)], .iface rt (.agg #[.pointer (some ⟨4, 236, none⟩)])]).run Go.Proofs.Tryz.prog w = .ok (.bool false) w := by kernel_rfl
theorem rel306_236 (rt : TypeId) (w : World) : (ReflectliteType.relation "AssignableTo" ReflectliteType.assignableTo #[.agg #[.pointer (some ⟨4, 306, none⟩)], .iface rt (.agg #[.pointer (some ⟨4, 236, none⟩)])]).run Go.Proofs.Tryz.prog w = .ok (.bool false) w := by kernel_rfl
theorem rel307_236 (rt : TypeId) (w : World) : (ReflectliteType.relation "AssignableTo" ReflectliteType.assignableTo #[.agg #[.pointer (some ⟨4, 307, none⟩)], .iface rt (.agg #[.pointer (some ⟨4, 236, none⟩)])]).run Go.Proofs.Tryz.prog w = .ok (.bool false) w := by kernel_rfl
theorem rel316_236 (rt : TypeId) (w : World) : (ReflectliteType.relation "AssignableTo" ReflectliteType.assignableTo #[.agg #[.pointer (some ⟨4, 316, none⟩)], .iface rt (.agg #[.pointer (some ⟨4, 236, none⟩)])]).run Go.Proofs.Tryz.prog w = .ok (.bool false) w := by kernel_rfl
theorem rel327_236 (rt : TypeId) (w : World) : (ReflectliteType.relation "AssignableTo" ReflectliteType.assignableTo #[.agg #[.pointer (some ⟨4, 327, none⟩)], .iface rt (.agg #[.pointer (some ⟨4, 236, none⟩)])]).run Go.Proofs.Tryz.prog w = .ok (.bool false) w := by kernel_rfl
theorem rel329_236 (rt : TypeId) (w : World) : (ReflectliteType.relation "AssignableTo" ReflectliteType.assignableTo #[.agg #[.pointer (some ⟨4, 329, none⟩)], .iface rt (.agg #[.pointer (some ⟨4, 236, none⟩)])]).run Go.Proofs.Tryz.prog w = .ok (.bool false) w := by kernel_rfl
theorem rel333_236 (rt : TypeId) (w : World) : (ReflectliteType.relation "AssignableTo" ReflectliteType.assignableTo #[.agg #[.pointer (some ⟨4, 333, none⟩)], .iface rt (.agg #[.pointer (some ⟨4, 236, none⟩)])]).run Go.Proofs.Tryz.prog w = .ok (.bool false) w := by kernel_rfl
theorem rel371_236 (rt : TypeId) (w : World) : (ReflectliteType.relation "AssignableTo" ReflectliteType.assignableTo #[.agg #[.pointer (some ⟨4, 371, none⟩)], .iface rt (.agg #[.pointer (some ⟨4, 236, none⟩)])]).run Go.Proofs.Tryz.prog w = .ok (.bool false) w := by kernel_rfl
end Go.Hand
namespace Go.Ab
open Go Go.Proofs
def Tryz.meths : List (Nat × String × Nat × Bool) := [(204, "Unwrap", 293, false), (218, "Unwrap", 295, false), (251, "Unwrap", 301, false), (274, "AssignableTo", 303, false), (274, "Comparable", 304, false), (274, "Elem", 305, false), (274, "Implements", 306, false), (288, "Unwrap", 314, false), (316, "Unwrap", 319, false), (327, "Unwrap", 321, false), (329, "Unwrap", 323, false), (333, "Unwrap", 325, false), (274, "Kind", 285, true)]
theorem Tryz.methsOk : MethTab Go.Proofs.Tryz.prog Tryz.meths := ⟨fun w v => by kernel_rfl, fun w v => by kernel_rfl, fun w v => by kernel_rfl, fun w v => by kernel_rfl, fun w v => by kernel_rfl, fun w v => by kernel_rfl, fun w v => by kernel_rfl, fun w v => by kernel_rfl, fun w v => by kernel_rfl, fun w v => by kernel_rfl, fun w v => by kernel_rfl, fun w v => by kernel_rfl, fun w v => by kernel_rfl, trivial⟩
def Tryz.tas : List (Nat × Nat × Bool) := [(9, 278, false), (9, 281, false), (9, 282, false), (9, 293, false), (127, 278, false), (127, 281, false), (127, 282, false), (127, 293, false), (136, 278, false), (136, 281, false), (136, 282, false), (136, 293, false), (138, 278, false), (138, 281, false), (138, 282, false), (138, 293, false), (162, 278, false), (162, 281, false), (162, 282, false), (162, 293, false), (163, 278, false), (163, 281, false), (163, 282, false), (163, 293, false), (168, 278, false), (168, 281, false), (168, 282, false), (168, 293, false), (204, 278, false), (204, 281, true), (204, 282, false), (204, 293, false), (205, 278, false), (205, 281, false), (205, 282, false), (205, 293, false), (218, 278, false), (218, 281, true), (218, 282, false), (218, 293, false), (236, 278, false), (236, 281, false), (236, 282, false), (236, 293, false), (238, 278, false), (238, 281, false), (238, 282, false), (238, 293, false), (251, 278, false), (251, 281, true), (251, 282, false), (251, 293, false), (288, 278, false), (288, 281, true), (288, 282, false), (288, 293, false), (297, 278, false), (297, 281, false), (297, 282, false), (297, 293, false), (306, 278, false), (306, 281, false), (306, 282, false), (306, 293, false), (307, 278, false), (307, 281, false), (307, 282, false), (307, 293, false), (316, 278, false), (316, 281, true), (316, 282, false), (316, 293, false), (327, 278, false), (327, 281, true), (327, 282, false), (327, 293, false), (329, 278, false), (329, 281, false), (329, 282, true), (329, 293, false), (333, 278, false), (333, 281, true), (333, 282, false), (333, 293, false), (371, 278, false), (371, 281, false), (371, 282, false), (371, 293, false)]
theorem Tryz.tasOk : taB Go.Proofs.Tryz.prog Tryz.tas = true := by kernel_rfl
def Tryz.cmps : List (Nat × Bool) := [(9, true), (127, true), (136, true), (138, true), (162, true), (163, true), (168, true), (204, true), (205, true), (218, true), (236, true), (238, true), (251, true), (288, true), (297, true), (306, true), (307, true), (316, true), (327, true), (329, true), (333, true), (371, true)]
theorem Tryz.cmpsOk : HandleTab Go.Proofs.Tryz.prog (Extern.ReflectliteType.method fun t => do Extern.Rtype.noPackHeld "Comparable" t; pure (.bool (← typeInfo t).comparable)) 4 Tryz.cmps := ⟨fun w => by kernel_rfl, fun w => by kernel_rfl, fun w => by kernel_rfl, fun w => by kernel_rfl, fun w => by kernel_rfl, fun w => by kernel_rfl, fun w => by kernel_rfl, fun w => by kernel_rfl, fun w => by kernel_rfl, fun w => by kernel_rfl, fun w => by kernel_rfl, fun w => by kernel_rfl, fun w => by kernel_rfl, fun w => by kernel_rfl, fun w => by kernel_rfl, fun w => by kernel_rfl, fun w => by kernel_rfl, fun w => by kernel_rfl, fun w => by kernel_rfl, fun w => by kernel_rfl, fun w => by kernel_rfl, fun w => by kernel_rfl, trivial⟩
theorem Tryz.typeOf (t : TypeId) (v : Value) (w : World) : (Extern.ReflectliteType.typeOf #[.iface t v]).run Go.Proofs.Tryz.prog w = .ok (.iface 274 (.agg #[.pointer (some ⟨4, t, none⟩)])) w := by kernel_rfl
noncomputable def Tryz.E : Env := { cfg := Tryz.cfg, fn := look1 Tryz.fns, meth := lookM Tryz.meths, ta := look2o Tryz.tas, known := orK (kIns 227 8 96) (orK (kIns 229 4 32) (orK (kIdx 262) (orK (kHandle 304 4 Tryz.cmps) (orK (kTypeOf 167 274 4) (orK (kValueOf 153 4 138 150) (orK (kValueOf 153 4 136 153) (orK (kPat 154 (patType 4 274 138 150)) (orK (kPat 285 (patKind 4 138 22)) (orK (kPat 285 (patKind 4 136 25)) (orK (kPat 155 (patIsNil 4 138 150)) (orK (kPat 305 (patElem 4 274 138 136)) (orK (kPat 306 (patRel 4 136 115 true)) (orK (kPat 202 (patElemV 4 138 136 150 409)) (orK (kSet 203 4 136 409 153) (orK (kPat 303 (patRel 4 9 136 false)) (orK (kPat 303 (patRel 4 127 136 false)) (orK (kPat 303 (patRel 4 136 136 true)) (orK (kPat 303 (patRel 4 138 136 false)) (orK (kPat 303 (patRel 4 162 136 false)) (orK (kPat 303 (patRel 4 163 136 false)) (orK (kPat 303 (patRel 4 168 136 false)) (orK (kPat 303 (patRel 4 204 136 false)) (orK (kPat 303 (patRel 4 205 136 false)) (orK (kPat 303 (patRel 4 218 136 false)) (orK (kPat 303 (patRel 4 236 136 false)) (orK (kPat 303 (patRel 4 238 136 false)) (orK (kPat 303 (patRel 4 251 136 false)) (orK (kPat 303 (patRel 4 288 136 false)) (orK (kPat 303 (patRel 4 297 136 false)) (orK (kPat 303 (patRel 4 306 136 false)) (orK (kPat 303 (patRel 4 307 136 false)) (orK (kPat 303 (patRel 4 316 136 false)) (orK (kPat 303 (patRel 4 327 136 false)) (orK (kPat 303 (patRel 4 329 136 false)) (orK (kPat 303 (patRel 4 333 136 false)) (orK (kPat 303 (patRel 4 371 136 false)) (orK (kValueOf 153 4 163 150) (orK (kValueOf 153 4 162 153) (orK (kPat 154 (patType 4 274 163 150)) (orK (kPat 285 (patKind 4 163 22)) (orK (kPat 285 (patKind 4 162 25)) (orK (kPat 155 (patIsNil 4 163 150)) (orK (kPat 305 (patElem 4 274 163 162)) (orK (kPat 306 (patRel 4 162 115 true)) (orK (kPat 202 (patElemV 4 163 162 150 409)) (orK (kSet 203 4 162 409 153) (orK (kPat 303 (patRel 4 9 162 false)) (orK (kPat 303 (patRel 4 127 162 false)) (orK (kPat 303 (patRel 4 136 162 false)) (orK (kPat 303 (patRel 4 138 162 false)) (orK (kPat 303 (patRel 4 162 162 true)) (orK (kPat 303 (patRel 4 163 162 false)) (orK (kPat 303 (patRel 4 168 162 false)) (orK (kPat 303 (patRel 4 204 162 false)) (orK (kPat 303 (patRel 4 205 162 false)) (orK (kPat 303 (patRel 4 218 162 false)) (orK (kPat 303 (patRel 4 236 162 false)) (orK (kPat 303 (patRel 4 238 162 false)) (orK (kPat 303 (patRel 4 251 162 false)) (orK (kPat 303 (patRel 4 288 162 false)) (orK (kPat 303 (patRel 4 297 162 false)) (orK (kPat 303 (patRel 4 306 162 false)) (orK (kPat 303 (patRel 4 307 162 false)) (orK (kPat 303 (patRel 4 316 162 false)) (orK (kPat 303 (patRel 4 327 162 false)) (orK (kPat 303 (patRel 4 329 162 false)) (orK (kPat 303 (patRel 4 333 162 false)) (orK (kPat 303 (patRel 4 371 162 false)) (orK (kValueOf 153 4 205 150) (orK (kValueOf 153 4 127 153) (orK (kPat 154 (patType 4 274 205 150)) (orK (kPat 285 (patKind 4 205 22)) (orK (kPat 285 (patKind 4 127 25)) (orK (kPat 155 (patIsNil 4 205 150)) (orK (kPat 305 (patElem 4 274 205 127)) (orK (kPat 306 (patRel 4 127 115 true)) (orK (kPat 202 (patElemV 4 205 127 150 409)) (orK (kSet 203 4 127 409 153) (orK (kPat 303 (patRel 4 9 127 false)) (orK (kPat 303 (patRel 4 127 127 true)) (orK (kPat 303 (patRel 4 136 127 false)) (orK (kPat 303 (patRel 4 138 127 false)) (orK (kPat 303 (patRel 4 162 127 false)) (orK (kPat 303 (patRel 4 163 127 false)) (orK (kPat 303 (patRel 4 168 127 false)) (orK (kPat 303 (patRel 4 204 127 false)) (orK (kPat 303 (patRel 4 205 127 false)) (orK (kPat 303 (patRel 4 218 127 false)) (orK (kPat 303 (patRel 4 236 127 false)) (orK (kPat 303 (patRel 4 238 127 false)) (orK (kPat 303 (patRel 4 251 127 false)) (orK (kPat 303 (patRel 4 288 127 false)) (orK (kPat 303 (patRel 4 297 127 false)) (orK (kPat 303 (patRel 4 306 127 false)) (orK (kPat 303 (patRel 4 307 127 false)) (orK (kPat 303 (patRel 4 316 127 false)) (orK (kPat 303 (patRel 4 327 127 false)) (orK (kPat 303 (patRel 4 329 127 false)) (orK (kPat 303 (patRel 4 333 127 false)) (orK (kPat 303 (patRel 4 371 127 false)) (orK (kValueOf 153 4 238 150) (orK (kValueOf 153 4 236 150) (orK (kPat 154 (patType 4 274 238 150)) (orK (kPat 285 (patKind 4 238 22)) (orK (kPat 285 (patKind 4 236 22)) (orK (kPat 155 (patIsNil 4 238 150)) (orK (kPat 305 (patElem 4 274 238 236)) (orK (kPat 306 (patRel 4 236 115 true)) (orK (kPat 202 (patElemV 4 238 236 150 406)) (orK (kSet 203 4 236 406 150) (orK (kPat 303 (patRel 4 9 236 false)) (orK (kPat 303 (patRel 4 127 236 false)) (orK (kPat 303 (patRel 4 136 236 false)) (orK (kPat 303 (patRel 4 138 236 false)) (orK (kPat 303 (patRel 4 162 236 false)) (orK (kPat 303 (patRel 4 163 236 false)) (orK (kPat 303 (patRel 4 168 236 false)) (orK (kPat 303 (patRel 4 204 236 false)) (orK (kPat 303 (patRel 4 205 236 false)) (orK (kPat 303 (patRel 4 218 236 false)) (orK (kPat 303 (patRel 4 236 236 true)) (orK (kPat 303 (patRel 4 238 236 false)) (orK (kPat 303 (patRel 4 251 236 false)) (orK (kPat 303 (patRel 4 288 236 false)) (orK (kPat 303 (patRel 4 297 236 false)) (orK (kPat 303 (patRel 4 306 236 false)) (orK (kPat 303 (patRel 4 307 236 false)) (orK (kPat 303 (patRel 4 316 236 false)) (orK (kPat 303 (patRel 4 327 236 false)) (orK (kPat 303 (patRel 4 329 236 false)) (orK (kPat 303 (patRel 4 333 236 false)) (orK (kPat 303 (patRel 4 371 236 false)) (fun _ _ _ => none))))))))))))))))))))))))))))))))))))))))))))))))))))))))))))))))))))))))))))))))))))))))))))))))))))))))))))))))))))))))))))))))))))) }
theorem Tryz.envOk : EnvOk Go.Proofs.Tryz.prog Tryz.phi Tryz.X Tryz.E := Go.Ab.envOk Tryz.ok rfl rfl rfl Tryz.fnsOk (fun _ _ _ _ h => MethTab.get Tryz.methsOk h) (fun _ _ _ h => taB_ok Tryz.tasOk h) (orK_ok (fun _ _ _ _ h => kIns_ok insert227 h) (orK_ok (fun _ _ _ _ h => kIns_ok insert229 h) (orK_ok (fun _ _ _ _ h => kIdx_ok Go.Proofs.Tryz.func262 (by kernel_rfl) (by kernel_rfl) (by kernel_rfl) (by kernel_rfl) h) (orK_ok (fun _ _ _ _ h => kHandle_ok Go.Proofs.Tryz.func304 (by kernel_rfl) (by kernel_rfl) (by kernel_rfl) (by kernel_rfl) Tryz.cmpsOk h) (orK_ok (fun _ _ _ _ h => kTypeOf_ok Go.Proofs.Tryz.func167 (by kernel_rfl) (by kernel_rfl) (by kernel_rfl) (by kernel_rfl) Tryz.typeOf h) (orK_ok (fun _ _ _ _ h => kValueOf_ok (e := fun args => Extern.ReflectliteValue.unpack (args.getD 0 (.tuple #[]))) Go.Proofs.Tryz.func153 (by kernel_rfl) (by kernel_rfl) (by kernel_rfl) (by kernel_rfl) Go.Hand.valueOfP138 h) (orK_ok (fun _ _ _ _ h => kValueOf_ok (e := fun args => Extern.ReflectliteValue.unpack (args.getD 0 (.tuple #[]))) Go.Proofs.Tryz.func153 (by kernel_rfl) (by kernel_rfl) (by kernel_rfl) (by kernel_rfl) Go.Hand.valueOfE136 h) (orK_ok (fun _ _ _ _ h => kPat_ok Go.Proofs.Tryz.func154 (by kernel_rfl) (by kernel_rfl) (by kernel_rfl) (by kernel_rfl) (patType_ok Go.Hand.type138) h) (orK_ok (fun _ _ _ _ h => kPat_ok Go.Proofs.Tryz.func285 (by kernel_rfl) (by kernel_rfl) (by kernel_rfl) (by kernel_rfl) (patKind_ok Go.Hand.kindP138) h) (orK_ok (fun _ _ _ _ h => kPat_ok Go.Proofs.Tryz.func285 (by kernel_rfl) (by kernel_rfl) (by kernel_rfl) (by kernel_rfl) (patKind_ok Go.Hand.kindE136) h) (orK_ok (fun _ _ _ _ h => kPat_ok Go.Proofs.Tryz.func155 (by kernel_rfl) (by kernel_rfl) (by kernel_rfl) (by kernel_rfl) (patIsNil_ok Go.Hand.isNil138) h) (orK_ok (fun _ _ _ _ h => kPat_ok Go.Proofs.Tryz.func305 (by kernel_rfl) (by kernel_rfl) (by kernel_rfl) (by kernel_rfl) (patElem_ok Go.Hand.elem138) h) (orK_ok (fun _ _ _ _ h => kPat_ok Go.Proofs.Tryz.func306 (by kernel_rfl) (by kernel_rfl) (by kernel_rfl) (by kernel_rfl) (patRel_ok Go.Hand.implements136) h) (orK_ok (fun _ _ _ _ h => kPat_ok Go.Proofs.Tryz.func202 (by kernel_rfl) (by kernel_rfl) (by kernel_rfl) (by kernel_rfl) (patElemV_ok Go.Hand.elemV138) h) (orK_ok (fun _ _ _ _ h => kSet_ok Go.Proofs.Tryz.func203 (by kernel_rfl) (by kernel_rfl) (by kernel_rfl) (by kernel_rfl) Go.Hand.set136 h) (orK_ok (fun _ _ _ _ h => kPat_ok Go.Proofs.Tryz.func303 (by kernel_rfl) (by kernel_rfl) (by kernel_rfl) (by kernel_rfl) (patRel_ok Go.Hand.rel9_136) h) (orK_ok (fun _ _ _ _ h => kPat_ok Go.Proofs.Tryz.func303 (by kernel_rfl) (by kernel_rfl) (by kernel_rfl) (by kernel_rfl) (patRel_ok Go.Hand.rel127_136) h) (orK_ok (fun _ _ _ _ h => kPat_ok Go.Proofs.Tryz.func303 (by kernel_rfl) (by kernel_rfl) (by kernel_rfl) (by kernel_rfl) (patRel_ok Go.Hand.rel136_136) h) (orK_ok (fun _ _ _ _ h => kPat_ok Go.Proofs.Tryz.func303 (by kernel_rfl) (by kernel_rfl) (by kernel_rfl) (by kernel_rfl) (patRel_ok Go.Hand.rel138_136) h) (orK_ok (fun _ _ _ _ h => kPat_ok Go.Proofs.Tryz.func303 (by kernel_rfl) (by kernel_rfl) (by kernel_rfl) (by kernel_rfl) (patRel_ok Go.Hand.rel162_136) h) (orK_ok (fun _ _ _ _ h => kPat_ok Go.Proofs.Tryz.func303 (by kernel_rfl) (by kernel_rfl) (by kernel_rfl) (by kernel_rfl) (patRel_ok Go.Hand.rel163_136) h) (orK_ok (fun _ _ _ _ h => kPat_ok Go.Proofs.Tryz.func303 (by kernel_rfl) (by kernel_rfl) (by kernel_rfl) (by kernel_rfl) (patRel_ok Go.Hand.rel168_136) h) (orK_ok (fun _ _ _ _ h => kPat_ok Go.Proofs.Tryz.func303 (by kernel_rfl) (by kernel_rfl) (by kernel_rfl) (by kernel_rfl) (patRel_ok Go.Hand.rel204_136) h) (orK_ok (fun _ _ _ _ h => kPat_ok Go.Proofs.Tryz.func303 (by kernel_rfl) (by kernel_rfl) (by kernel_rfl) (by kernel_rfl) (patRel_ok Go.Hand.rel205_136) h) (orK_ok (fun _ _ _ _ h => kPat_ok Go.Proofs.Tryz.func303 (by kernel_rfl) (by kernel_rfl) (by kernel_rfl) (by kernel_rfl) (patRel_ok Go.Hand.rel218_136) h) (orK_ok (fun _ _ _ _ h => kPat_ok Go.Proofs.Tryz.func303 (by kernel_rfl) (by kernel_rfl) (by kernel_rfl) (by kernel_rfl) (patRel_ok Go.Hand.rel236_136) h) (orK_ok (fun _ _ _ _ h => kPat_ok Go.Proofs.Tryz.func303 (by kernel_rfl) (by kernel_rfl) (by kernel_rfl) (by kernel_rfl) (patRel_ok Go.Hand.rel238_136) h) (orK_ok (fun _ _ _ _ h => kPat_ok Go.Proofs.Tryz.func303 (by kernel_rfl) (by kernel_rfl) (by kernel_rfl) (by kernel_rfl) (patRel_ok Go.Hand.rel251_136) h) (orK_ok (fun _ _ _ _ h => kPat_ok Go.Proofs.Tryz.func303 (by kernel_rfl) (by kernel_rfl) (by kernel_rfl) (by kernel_rfl) (patRel_ok Go.Hand.rel288_136) h) (orK_ok (fun _ _ _ _ h => kPat_ok Go.Proofs.Tryz.func303 (by kernel_rfl) (by kernel_rfl) (by kernel_rfl) (by kernel_rfl) (patRel_ok Go.Hand.rel297_136) h) (orK_ok (fun _ _ _ _ h => kPat_ok Go.Proofs.Tryz.func303 (by kernel_rfl) (by kernel_rfl) (by kernel_rfl) (by kernel_rfl) (patRel_ok Go.Hand.rel306_136) h) (orK_ok (fun _ _ _ _ h => kPat_ok Go.Proofs.Tryz.func303 (by kernel_rfl) (by kernel_rfl) (by kernel_rfl) (by kernel_rfl) (patRel_ok Go.Hand.rel307_136) h) (orK_ok (fun _ _ _ _ h => kPat_ok Go.Proofs.Tryz.func303 (by kernel_rfl) (by kernel_rfl) (by kernel_rfl) (by kernel_rfl) (patRel_ok Go.Hand.rel316_136) h) (orK_ok (fun _ _ _ _ h => kPat_ok Go.Proofs.Tryz.func303 (by kernel_rfl) (by kernel_rfl) (by kernel_rfl) (by kernel_rfl) (patRel_ok Go.Hand.rel327_136) h) (orK_ok (fun _ _ _ _ h => kPat_ok Go.Proofs.Tryz.func303 (by kernel_rfl) (by kernel_rfl) (by kernel_rfl) (by kernel_rfl) (patRel_ok Go.Hand.rel329_136) h) (orK_ok (fun _ _ _ _ h => kPat_ok Go.Proofs.Tryz.func303 (by kernel_rfl) (by kernel_rfl) (by kernel_rfl) (by kernel_rfl) (patRel_ok Go.Hand.rel333_136) h) (orK_ok (fun _ _ _ _ h => kPat_ok Go.Proofs.Tryz.func303 (by kernel_rfl) (by kernel_rfl) (by kernel_rfl) (by kernel_rfl) (patRel_ok Go.Hand.rel371_136) h) (orK_ok (fun _ _ _ _ h => kValueOf_ok (e := fun args => Extern.ReflectliteValue.unpack (args.getD 0 (.tuple #[]))) Go.Proofs.Tryz.func153 (by kernel_rfl) (by kernel_rfl) (by kernel_rfl) (by kernel_rfl) Go.Hand.valueOfP163 h) (orK_ok (fun _ _ _ _ h => kValueOf_ok (e := fun args => Extern.ReflectliteValue.unpack (args.getD 0 (.tuple #[]))) Go.Proofs.Tryz.func153 (by kernel_rfl) (by kernel_rfl) (by kernel_rfl) (by kernel_rfl) Go.Hand.valueOfE162 h) (orK_ok (fun _ _ _ _ h => kPat_ok Go.Proofs.Tryz.func154 (by kernel_rfl) (by kernel_rfl) (by kernel_rfl) (by kernel_rfl) (patType_ok Go.Hand.type163) h) (orK_ok (fun _ _ _ _ h => kPat_ok Go.Proofs.Tryz.func285 (by kernel_rfl) (by kernel_rfl) (by kernel_rfl) (by kernel_rfl) (patKind_ok Go.Hand.kindP163) h) (orK_ok (fun _ _ _ _ h => kPat_ok Go.Proofs.Tryz.func285 (by kernel_rfl) (by kernel_rfl) (by kernel_rfl) (by kernel_rfl) (patKind_ok Go.Hand.kindE162) h) (orK_ok (fun _ _ _ _ h => kPat_ok Go.Proofs.Tryz.func155 (by kernel_rfl) (by kernel_rfl) (by kernel_rfl) (by kernel_rfl) (patIsNil_ok Go.Hand.isNil163) h) (orK_ok (fun _ _ _ _ h => kPat_ok Go.Proofs.Tryz.func305 (by kernel_rfl) (by kernel_rfl) (by kernel_rfl) (by kernel_rfl) (patElem_ok Go.Hand.elem163) h) (orK_ok (fun _ _ _ _ h => kPat_ok Go.Proofs.Tryz.func306 (by kernel_rfl) (by kernel_rfl) (by kernel_rfl) (by kernel_rfl) (patRel_ok Go.Hand.implements162) h) (orK_ok (fun _ _ _ _ h => kPat_ok Go.Proofs.Tryz.func202 (by kernel_rfl) (by kernel_rfl) (by kernel_rfl) (by kernel_rfl) (patElemV_ok Go.Hand.elemV163) h) (orK_ok (fun _ _ _ _ h => kSet_ok Go.Proofs.Tryz.func203 (by kernel_rfl) (by kernel_rfl) (by kernel_rfl) (by kernel_rfl) Go.Hand.set162 h) (orK_ok (fun _ _ _ _ h => kPat_ok Go.Proofs.Tryz.func303 (by kernel_rfl) (by kernel_rfl) (by kernel_rfl) (by kernel_rfl) (patRel_ok Go.Hand.rel9_162) h) (orK_ok (fun _ _ _ _ h => kPat_ok Go.Proofs.Tryz.func303 (by kernel_rfl) (by kernel_rfl) (by kernel_rfl) (by kernel_rfl) (patRel_ok Go.Hand.rel127_162) h) (orK_ok (fun _ _ _ _ h => kPat_ok Go.Proofs.Tryz.func303 (by kernel_rfl) (by kernel_rfl) (by kernel_rfl) (by kernel_rfl) (patRel_ok Go.Hand.rel136_162) h) (orK_ok (fun _ _ _ _ h => kPat_ok Go.Proofs.Tryz.func303 (by kernel_rfl) (by kernel_rfl) (by kernel_rfl) (by kernel_rfl) (patRel_ok Go.Hand.rel138_162) h) (orK_ok (fun _ _ _ _ h => kPat_ok Go.Proofs.Tryz.func303 (by kernel_rfl) (by kernel_rfl) (by kernel_rfl) (by kernel_rfl) (patRel_ok Go.Hand.rel162_162) h) (orK_ok (fun _ _ _ _ h => kPat_ok Go.Proofs.Tryz.func303 (by kernel_rfl) (by kernel_rfl) (by kernel_rfl) (by kernel_rfl) (patRel_ok Go.Hand.rel163_162) h) (orK_ok (fun _ _ _ _ h => kPat_ok Go.Proofs.Tryz.func303 (by kernel_rfl) (by kernel_rfl) (by kernel_rfl) (by kernel_rfl) (patRel_ok Go.Hand.rel168_162) h) (orK_ok (fun _ _ _ _ h => kPat_ok Go.Proofs.Tryz.func303 (by kernel_rfl) (by kernel_rfl) (by kernel_rfl) (by kernel_rfl) (patRel_ok Go.Hand.rel204_162) h) (orK_ok (fun _ _ _ _ h => kPat_ok Go.Proofs.Tryz.func303 (by kernel_rfl) (by kernel_rfl) (by kernel_rfl) (by kernel_rfl) (patRel_ok Go.Hand.rel205_162) h) (orK_ok (fun _ _ _ _ h => kPat_ok Go.Proofs.Tryz.func303 (by kernel_rfl) (by kernel_rfl) (by kernel_rfl) (by kernel_rfl) (patRel_ok Go.Hand.rel218_162) h) (orK_ok (fun _ _ _ _ h => kPat_ok Go.Proofs.Tryz.func303 (by kernel_rfl) (by kernel_rfl) (by kernel_rfl) (by kernel_rfl) (patRel_ok Go.Hand.rel236_162) h) (orK_ok (fun _ _ _ _ h => kPat_ok Go.Proofs.Tryz.func303 (by kernel_rfl) (by kernel_rfl) (by kernel_rfl) (by kernel_rfl) (patRel_ok Go.Hand.rel238_162) h) (orK_ok (fun _ _ _ _ h => kPat_ok Go.Proofs.Tryz.func303 (by kernel_rfl) (by kernel_rfl) (by kernel_rfl) (by kernel_rfl) (patRel_ok Go.Hand.rel251_162) h) (orK_ok (fun _ _ _ _ h => kPat_ok Go.Proofs.Tryz.func303 (by kernel_rfl) (by kernel_rfl) (by kernel_rfl) (by kernel_rfl) (patRel_ok Go.Hand.rel288_162) h) (orK_ok (fun _ _ _ _ h => kPat_ok Go.Proofs.Tryz.func303 (by kernel_rfl) (by kernel_rfl) (by kernel_rfl) (by kernel_rfl) (patRel_ok Go.Hand.rel297_162) h) (orK_ok (fun _ _ _ _ h => kPat_ok Go.Proofs.Tryz.func303 (by kernel_rfl) (by kernel_rfl) (by kernel_rfl) (by kernel_rfl) (patRel_ok Go.Hand.rel306_162) h) (orK_ok (fun _ _ _ _ h => kPat_ok Go.Proofs.Tryz.func303 (by kernel_rfl) (by kernel_rfl) (by kernel_rfl) (by kernel_rfl) (patRel_ok Go.Hand.rel307_162) h) (orK_ok (fun _ _ _ _ h => kPat_ok Go.Proofs.Tryz.func303 (by kernel_rfl) (by kernel_rfl) (by kernel_rfl) (by kernel_rfl) (patRel_ok Go.Hand.rel316_162) h) (orK_ok (fun _ _ _ _ h => kPat_ok Go.Proofs.Tryz.func303 (by kernel_rfl) (by kernel_rfl) (by kernel_rfl) (by kernel_rfl) (patRel_ok Go.Hand.rel327_162) h) (orK_ok (fun _ _ _ _ h => kPat_ok Go.Proofs.Tryz.func303 (by kernel_rfl) (by kernel_rfl) (by kernel_rfl) (by kernel_rfl) (patRel_ok Go.Hand.rel329_162) h) (orK_ok (fun _ _ _ _ h => kPat_ok Go.Proofs.Tryz.func303 (by kernel_rfl) (by kernel_rfl) (by kernel_rfl) (by kernel_rfl) (patRel_ok Go.Hand.rel333_162) h) (orK_ok (fun _ _ _ _ h => kPat_ok Go.Proofs.Tryz.func303 (by kernel_rfl) (by kernel_rfl) (by kernel_rfl) (by kernel_rfl) (patRel_ok Go.Hand.rel371_162) h) (orK_ok (fun _ _ _ _ h => kValueOf_ok (e := fun args => Extern.ReflectliteValue.unpack (args.getD 0 (.tuple #[]))) Go.Proofs.Tryz.func153 (by kernel_rfl) (by kernel_rfl) (by kernel_rfl) (by kernel_rfl) Go.Hand.valueOfP205 h) (orK_ok (fun _ _ _ _ h => kValueOf_ok (e := fun args => Extern.ReflectliteValue.unpack (args.getD 0 (.tuple #[]))) Go.Proofs.Tryz.func153 (by kernel_rfl) (by kernel_rfl) (by kernel_rfl) (by kernel_rfl) Go.Hand.valueOfE127 h) (orK_ok (fun _ _ _ _ h => kPat_ok Go.Proofs.Tryz.func154 (by kernel_rfl) (by kernel_rfl) (by kernel_rfl) (by kernel_rfl) (patType_ok Go.Hand.type205) h) (orK_ok (fun _ _ _ _ h => kPat_ok Go.Proofs.Tryz.func285 (by kernel_rfl) (by kernel_rfl) (by kernel_rfl) (by kernel_rfl) (patKind_ok Go.Hand.kindP205) h) (orK_ok (fun _ _ _ _ h => kPat_ok Go.Proofs.Tryz.func285 (by kernel_rfl) (by kernel_rfl) (by kernel_rfl) (by kernel_rfl) (patKind_ok Go.Hand.kindE127) h) (orK_ok (fun _ _ _ _ h => kPat_ok Go.Proofs.Tryz.func155 (by kernel_rfl) (by kernel_rfl) (by kernel_rfl) (by kernel_rfl) (patIsNil_ok Go.Hand.isNil205) h) (orK_ok (fun _ _ _ _ h => kPat_ok Go.Proofs.Tryz.func305 (by kernel_rfl) (by kernel_rfl) (by kernel_rfl) (by kernel_rfl) (patElem_ok Go.Hand.elem205) h) (orK_ok (fun _ _ _ _ h => kPat_ok Go.Proofs.Tryz.func306 (by kernel_rfl) (by kernel_rfl) (by kernel_rfl) (by kernel_rfl) (patRel_ok Go.Hand.implements127) h) (orK_ok (fun _ _ _ _ h => kPat_ok Go.Proofs.Tryz.func202 (by kernel_rfl) (by kernel_rfl) (by kernel_rfl) (by kernel_rfl) (patElemV_ok Go.Hand.elemV205) h) (orK_ok (fun _ _ _ _ h => kSet_ok Go.Proofs.Tryz.func203 (by kernel_rfl) (by kernel_rfl) (by kernel_rfl) (by kernel_rfl) Go.Hand.set127 h) (orK_ok (fun _ _ _ _ h => kPat_ok Go.Proofs.Tryz.func303 (by kernel_rfl) (by kernel_rfl) (by kernel_rfl) (by kernel_rfl) (patRel_ok Go.Hand.rel9_127) h) (orK_ok (fun _ _ _ _ h => kPat_ok Go.Proofs.Tryz.func303 (by kernel_rfl) (by kernel_rfl) (by kernel_rfl) (by kernel_rfl) (patRel_ok Go.Hand.rel127_127) h) (orK_ok (fun _ _ _ _ h => kPat_ok Go.Proofs.Tryz.func303 (by kernel_rfl) (by kernel_rfl) (by kernel_rfl) (by kernel_rfl) (patRel_ok Go.Hand.rel136_127) h) (orK_ok (fun _ _ _ _ h => kPat_ok Go.Proofs.Tryz.func303 (by kernel_rfl) (by kernel_rfl) (by kernel_rfl) (by kernel_rfl) (patRel_ok Go.Hand.rel138_127) h) (orK_ok (fun _ _ _ _ h => kPat_ok Go.Proofs.Tryz.func303 (by kernel_rfl) (by kernel_rfl) (by kernel_rfl) (by kernel_rfl) (patRel_ok Go.Hand.rel162_127) h) (orK_ok (fun _ _ _ _ h => kPat_ok Go.Proofs.Tryz.func303 (by kernel_rfl) (by kernel_rfl) (by kernel_rfl) (by kernel_rfl) (patRel_ok Go.Hand.rel163_127) h) (orK_ok (fun _ _ _ _ h => kPat_ok Go.Proofs.Tryz.func303 (by kernel_rfl) (by kernel_rfl) (by kernel_rfl) (by kernel_rfl) (patRel_ok Go.Hand.rel168_127) h) (orK_ok (fun _ _ _ _ h => kPat_ok Go.Proofs.Tryz.func303 (by kernel_rfl) (by kernel_rfl) (by kernel_rfl) (by kernel_rfl) (patRel_ok Go.Hand.rel204_127) h) (orK_ok (fun _ _ _ _ h => kPat_ok Go.Proofs.Tryz.func303 (by kernel_rfl) (by kernel_rfl) (by kernel_rfl) (by kernel_rfl) (patRel_ok Go.Hand.rel205_127) h) (orK_ok (fun _ _ _ _ h => kPat_ok Go.Proofs.Tryz.func303 (by kernel_rfl) (by kernel_rfl) (by kernel_rfl) (by kernel_rfl) (patRel_ok Go.Hand.rel218_127) h) (orK_ok (fun _ _ _ _ h => kPat_ok Go.Proofs.Tryz.func303 (by kernel_rfl) (by kernel_rfl) (by kernel_rfl) (by kernel_rfl) (patRel_ok Go.Hand.rel236_127) h) (orK_ok (fun _ _ _ _ h => kPat_ok Go.Proofs.Tryz.func303 (by kernel_rfl) (by kernel_rfl) (by kernel_rfl) (by kernel_rfl) (patRel_ok Go.Hand.rel238_127) h) (orK_ok (fun _ _ _ _ h => kPat_ok Go.Proofs.Tryz.func303 (by kernel_rfl) (by kernel_rfl) (by kernel_rfl) (by kernel_rfl) (patRel_ok Go.Hand.rel251_127) h) (orK_ok (fun _ _ _ _ h => kPat_ok Go.Proofs.Tryz.func303 (by kernel_rfl) (by kernel_rfl) (by kernel_rfl) (by kernel_rfl) (patRel_ok Go.Hand.rel288_127) h) (orK_ok (fun _ _ _ _ h => kPat_ok Go.Proofs.Tryz.func303 (by kernel_rfl) (by kernel_rfl) (by kernel_rfl) (by kernel_rfl) (patRel_ok Go.Hand.rel297_127) h) (orK_ok (fun _ _ _ _ h => kPat_ok Go.Proofs.Tryz.func303 (by kernel_rfl) (by kernel_rfl) (by kernel_rfl) (by kernel_rfl) (patRel_ok Go.Hand.rel306_127) h) (orK_ok (fun _ _ _ _ h => kPat_ok Go.Proofs.Tryz.func303 (by kernel_rfl) (by kernel_rfl) (by kernel_rfl) (by kernel_rfl) (patRel_ok Go.Hand.rel307_127) h) (orK_ok (fun _ _ _ _ h => kPat_ok Go.Proofs.Tryz.func303 (by kernel_rfl) (by kernel_rfl) (by kernel_rfl) (by kernel_rfl) (patRel_ok Go.Hand.rel316_127) h) (orK_ok (fun _ _ _ _ h => kPat_ok Go.Proofs.Tryz.func303 (by kernel_rfl) (by kernel_rfl) (by kernel_rfl) (by kernel_rfl) (patRel_ok Go.Hand.rel327_127) h) (orK_ok (fun _ _ _ _ h => kPat_ok Go.Proofs.Tryz.func303 (by kernel_rfl) (by kernel_rfl) (by kernel_rfl) (by kernel_rfl) (patRel_ok Go.Hand.rel329_127) h) (orK_ok (fun _ _ _ _ h => kPat_ok Go.Proofs.Tryz.func303 (by kernel_rfl) (by kernel_rfl) (by kernel_rfl) (by kernel_rfl) (patRel_ok Go.Hand.rel333_127) h) (orK_ok (fun _ _ _ _ h => kPat_ok Go.Proofs.Tryz.func303 (by kernel_rfl) (by kernel_rfl) (by kernel_rfl) (by kernel_rfl) (patRel_ok Go.Hand.rel371_127) h) (orK_ok (fun _ _ _ _ h => kValueOf_ok (e := fun args => Extern.ReflectliteValue.unpack (args.getD 0 (.tuple #[]))) Go.Proofs.Tryz.func153 (by kernel_rfl) (by kernel_rfl) (by kernel_rfl) (by kernel_rfl) Go.Hand.valueOfP238 h) (orK_ok (fun _ _ _ _ h => kValueOf_ok (e := fun args => Extern.ReflectliteValue.unpack (args.getD 0 (.tuple #[]))) Go.Proofs.Tryz.func153 (by kernel_rfl) (by kernel_rfl) (by kernel_rfl) (by kernel_rfl) Go.Hand.valueOfE236 h) (orK_ok (fun _ _ _ _ h => kPat_ok Go.Proofs.Tryz.func154 (by kernel_rfl) (by kernel_rfl) (by kernel_rfl) (by kernel_rfl) (patType_ok Go.Hand.type238) h) (orK_ok (fun _ _ _ _ h => kPat_ok Go.Proofs.Tryz.func285 (by kernel_rfl) (by kernel_rfl) (by kernel_rfl) (by kernel_rfl) (patKind_ok Go.Hand.kindP238) h) (orK_ok (fun _ _ _ _ h => kPat_ok Go.Proofs.Tryz.func285 (by kernel_rfl) (by kernel_rfl) (by kernel_rfl) (by kernel_rfl) (patKind_ok Go.Hand.kindE236) h) (orK_ok (fun _ _ _ _ h => kPat_ok Go.Proofs.Tryz.func155 (by kernel_rfl) (by kernel_rfl) (by kernel_rfl) (by kernel_rfl) (patIsNil_ok Go.Hand.isNil238) h) (orK_ok (fun _ _ _ _ h => kPat_ok Go.Proofs.Tryz.func305 (by kernel_rfl) (by kernel_rfl) (by kernel_rfl) (by kernel_rfl) (patElem_ok Go.Hand.elem238) h) (orK_ok (fun _ _ _ _ h => kPat_ok Go.Proofs.Tryz.func306 (by kernel_rfl) (by kernel_rfl) (by kernel_rfl) (by kernel_rfl) (patRel_ok Go.Hand.implements236) h) (orK_ok (fun _ _ _ _ h => kPat_ok Go.Proofs.Tryz.func202 (by kernel_rfl) (by kernel_rfl) (by kernel_rfl) (by kernel_rfl) (patElemV_ok Go.Hand.elemV238) h) (orK_ok (fun _ _ _ _ h => kSet_ok Go.Proofs.Tryz.func203 (by kernel_rfl) (by kernel_rfl) (by kernel_rfl) (by kernel_rfl) Go.Hand.set236 h) (orK_ok (fun _ _ _ _ h => kPat_ok Go.Proofs.Tryz.func303 (by kernel_rfl) (by kernel_rfl) (by kernel_rfl) (by kernel_rfl) (patRel_ok Go.Hand.rel9_236) h) (orK_ok (fun _ _ _ _ h => kPat_ok Go.Proofs.Tryz.func303 (by kernel_rfl) (by kernel_rfl) (by kernel_rfl) (by kernel_rfl) (patRel_ok Go.Hand.rel127_236) h) (orK_ok (fun _ _ _ _ h => kPat_ok Go.Proofs.Tryz.func303 (by kernel_rfl) (by kernel_rfl) (by kernel_rfl) (by kernel_rfl) (patRel_ok Go.Hand.rel136_236) h) (orK_ok (fun _ _ _ _ h => kPat_ok Go.Proofs.Tryz.func303 (by kernel_rfl) (by kernel_rfl) (by kernel_rfl) (by kernel_rfl) (patRel_ok Go.Hand.rel138_236) h) (orK_ok (fun _ _ _ _ h => kPat_ok Go.Proofs.Tryz.func303 (by kernel_rfl) (by kernel_rfl) (by kernel_rfl) (by kernel_rfl) (patRel_ok Go.Hand.rel162_236) h) (orK_ok (fun _ _ _ _ h => kPat_ok Go.Proofs.Tryz.func303 (by kernel_rfl) (by kernel_rfl) (by kernel_rfl) (by kernel_rfl) (patRel_ok Go.Hand.rel163_236) h) (orK_ok (fun _ _ _ _ h => kPat_ok Go.Proofs.Tryz.func303 (by kernel_rfl) (by kernel_rfl) (by kernel_rfl) (by kernel_rfl) (patRel_ok Go.Hand.rel168_236) h) (orK_ok (fun _ _ _ _ h => kPat_ok Go.Proofs.Tryz.func303 (by kernel_rfl) (by kernel_rfl) (by kernel_rfl) (by kernel_rfl) (patRel_ok Go.Hand.rel204_236) h) (orK_ok (fun _ _ _ _ h => kPat_ok Go.Proofs.Tryz.func303 (by kernel_rfl) (by kernel_rfl) (by kernel_rfl) (by kernel_rfl) (patRel_ok Go.Hand.rel205_236) h) (orK_ok (fun _ _ _ _ h => kPat_ok Go.Proofs.Tryz.func303 (by kernel_rfl) (by kernel_rfl) (by kernel_rfl) (by kernel_rfl) (patRel_ok Go.Hand.rel218_236) h) (orK_ok (fun _ _ _ _ h => kPat_ok Go.Proofs.Tryz.func303 (by kernel_rfl) (by kernel_rfl) (by kernel_rfl) (by kernel_rfl) (patRel_ok Go.Hand.rel236_236) h) (orK_ok (fun _ _ _ _ h => kPat_ok Go.Proofs.Tryz.func303 (by kernel_rfl) (by kernel_rfl) (by kernel_rfl) (by kernel_rfl) (patRel_ok Go.Hand.rel238_236) h) (orK_ok (fun _ _ _ _ h => kPat_ok Go.Proofs.Tryz.func303 (by kernel_rfl) (by kernel_rfl) (by kernel_rfl) (by kernel_rfl) (patRel_ok Go.Hand.rel251_236) h) (orK_ok (fun _ _ _ _ h => kPat_ok Go.Proofs.Tryz.func303 (by kernel_rfl) (by kernel_rfl) (by kernel_rfl) (by kernel_rfl) (patRel_ok Go.Hand.rel288_236) h) (orK_ok (fun _ _ _ _ h => kPat_ok Go.Proofs.Tryz.func303 (by kernel_rfl) (by kernel_rfl) (by kernel_rfl) (by kernel_rfl) (patRel_ok Go.Hand.rel297_236) h) (orK_ok (fun _ _ _ _ h => kPat_ok Go.Proofs.Tryz.func303 (by kernel_rfl) (by kernel_rfl) (by kernel_rfl) (by kernel_rfl) (patRel_ok Go.Hand.rel306_236) h) (orK_ok (fun _ _ _ _ h => kPat_ok Go.Proofs.Tryz.func303 (by kernel_rfl) (by kernel_rfl) (by kernel_rfl) (by kernel_rfl) (patRel_ok Go.Hand.rel307_236) h) (orK_ok (fun _ _ _ _ h => kPat_ok Go.Proofs.Tryz.func303 (by kernel_rfl) (by kernel_rfl) (by kernel_rfl) (by kernel_rfl) (patRel_ok Go.Hand.rel316_236) h) (orK_ok (fun _ _ _ _ h => kPat_ok Go.Proofs.Tryz.func303 (by kernel_rfl) (by kernel_rfl) (by kernel_rfl) (by kernel_rfl) (patRel_ok Go.Hand.rel327_236) h) (orK_ok (fun _ _ _ _ h => kPat_ok Go.Proofs.Tryz.func303 (by kernel_rfl) (by kernel_rfl) (by kernel_rfl) (by kernel_rfl) (patRel_ok Go.Hand.rel329_236) h) (orK_ok (fun _ _ _ _ h => kPat_ok Go.Proofs.Tryz.func303 (by kernel_rfl) (by kernel_rfl) (by kernel_rfl) (by kernel_rfl) (patRel_ok Go.Hand.rel333_236) h) (orK_ok (fun _ _ _ _ h => kPat_ok Go.Proofs.Tryz.func303 (by kernel_rfl) (by kernel_rfl) (by kernel_rfl) (by kernel_rfl) (patRel_ok Go.Hand.rel371_236) h) (fun _ _ _ _ h => by cases h))))))))))))))))))))))))))))))))))))))))))))))))))))))))))))))))))))))))))))))))))))))))))))))))))))))))))))))))))))))))))))))))))))))
end Go.Ab
