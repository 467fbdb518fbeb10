/- slices.Delete and slices.Insert of this seat, walked; the environment for closed laws. Printed by mkhand.py. -/
import Derived.Test.YtgaibmbphbmlkaaGreatDoorAb
import Derived.Test.YtgaibmbphbmlkaaGreatDoorAbExt
import Derived.Lib.AppendZeros
import Derived.Lib.AppendZerosOnto
import Derived.Lib.Overlaps
import Derived.Laws.Externs
import Derived.Laws.IdiomCopy
import Derived.Shelf.Spec.SlicesInsert
set_option maxRecDepth 100000
set_option maxHeartbeats 4000000
namespace Go.Ab
open Go Go.Proofs

end Go.Ab
namespace Go.Hand
open Go Go.Proofs Go.RowKit Go.Lib
-- A: at the end, room
theorem ins148A (i0 : TypeInfo) (b n c vb vc size : Nat) (tt : TypeId) (ys : List Value) (w : World) (hi0 : Go.Proofs.Tryz.prog.info? 26 = some i0) (hz0 : i0.size = 4) (hroom : n + 1 ≤ c) (hsh : w.shape? b = some (tt, size)) (hsz : (n + 1) * 4 ≤ size) (hf : ∀ q, q < size → w.frozen? ⟨b, q, none⟩ = false)
    (hyl : ys.length = 4) (hys : ∀ j v, ys[j]? = some v → w.cell? ⟨vb, j, none⟩ = some v) (h1 : ∀ u ∈ ys, u.oneCell' = true) :
    Calls Go.Proofs.Tryz.prog 148 #[.slice (some ⟨b, 0, none⟩) n c, .int .i64 n, .slice (some ⟨vb, 0, none⟩) 1 vc] w fun e w' => e = .returned (.slice (some ⟨b, 0, none⟩) (n + 1) c) ∧ w' = w.setCells b (n * 4) ys := by
  have mixed : Go.Proofs.Tryz.prog.follows .mixedOrders = true := Go.Ab.Tryz.mixed
  have hnc : n ≤ c := by omega
  have hfc : (Builtin.firstCells i0.size 1 (.slice (some ⟨vb, 0, none⟩) 1 vc)).run Go.Proofs.Tryz.prog w = .ok ys.toArray w := by
    rw [hz0]
    exact run_firstCells_some w 4 1 ⟨vb, 0, none⟩ 1 vc ys (by rw [hyl]) (fun j v hj => by rw [Addr.add_lit, Nat.zero_add]; exact hys j v hj)
  have hrun := fun ty => Go.Ab.app_room (P := Go.Proofs.Tryz.prog) (w := w) (ty := ty) (off := 0) (len := n) (cap := c) (n := 1) (b := b) Go.Proofs.Tryz.underlying27 Go.Proofs.Tryz.underlying27 (.inl ⟨_, rfl⟩) hi0 (by simp [Builtin.lenOf]) hfc hroom
    (fun j hj => by rw [hz0]; exact Go.Ab.shape_cell hsh (by omega)) (fun j hj => by rw [hz0]; exact hf _ (by omega)) h1
  simp only [hz0, Nat.zero_add] at hrun
  go_enter Go.Proofs.Tryz.func148, Go.Proofs.Tryz.ntmps148
  go_wp2_with (at_builtin; refine Lib.wpList_append_run _ rfl _ _ _ _ rfl _ _ rfl rfl _ _ (hrun _) ?_)
  go_ret
  exact ⟨rfl, rfl⟩
-- B: at the end, no room
theorem ins148B (ba : Option Addr) (n c vb vc : Nat) (ys olds : List Value) (w : World) (i0 : TypeInfo) (z : Value) (hi0 : Go.Proofs.Tryz.prog.info? 26 = some i0) (hz0 : i0.size = 4) (hz : i0.zero = some z) (hb0 : 0 < i0.bytes) (hnc : n ≤ c) (hroom : c < n + 1) (hby : (n + 1) * i0.bytes ≤ 140737488355328)
    (hfo : (Builtin.firstCells 4 n (.slice ba n c)).run Go.Proofs.Tryz.prog w.drew = .ok olds.toArray w.drew)
    (hyl : ys.length = 4) (hys : ∀ j v, ys[j]? = some v → w.cell? ⟨vb, j, none⟩ = some v) :
    Calls Go.Proofs.Tryz.prog 148 #[.slice ba n c, .int .i64 n, .slice (some ⟨vb, 0, none⟩) 1 vc] w fun e w' => e = .returned (.slice (some ⟨w.heap.size, 0, none⟩) (n + 1) (grownCap w (n + 1) c 26)) ∧
      w' = w.drew.alloc (.cells (olds ++ ys ++ (Builtin.zeroCells z.cells (grownCap w (n + 1) c 26 - (n + 1))).toList).toArray 26) := by
  have mixed : Go.Proofs.Tryz.prog.follows .mixedOrders = true := Go.Ab.Tryz.mixed
  have hfc : (Builtin.firstCells i0.size 1 (.slice (some ⟨vb, 0, none⟩) 1 vc)).run Go.Proofs.Tryz.prog w.drew = .ok ys.toArray w.drew := by
    rw [hz0]
    exact run_firstCells_some w.drew 4 1 ⟨vb, 0, none⟩ 1 vc ys (by rw [hyl]) (fun j v hj => by rw [Addr.add_lit, Nat.zero_add]; exact hys j v hj)
  have hrun := fun ty => Go.Ab.app_grow (P := Go.Proofs.Tryz.prog) (w := w) (ty := ty) (len := n) (cap := c) (n := 1) (b := ba) (olds := olds) (news := ys) (yv := .slice (some ⟨vb, 0, none⟩) 1 vc) Go.Proofs.Tryz.underlying27 Go.Proofs.Tryz.underlying27 (.inl ⟨_, rfl⟩) hi0 hz (by simp [Builtin.lenOf]) hfc (by rw [hz0]; exact hfo) hroom hby hb0
  generalize hG : grownCap w (n + 1) c 26 = G at hrun ⊢
  generalize hR : (olds ++ ys ++ (Builtin.zeroCells z.cells (G - (n + 1))).toList).toArray = ROW at hrun ⊢
  clear hG hR hfo hfc hz hby
  go_enter Go.Proofs.Tryz.func148, Go.Proofs.Tryz.ntmps148
  go_wp2_with (at_builtin; refine Lib.wpList_append_run _ rfl _ _ _ _ rfl _ _ rfl rfl _ _ (hrun _) ?_)
  go_ret
  exact ⟨rfl, rfl⟩
-- C: in between, room
theorem ins148C (b n c i vb vc size vsz : Nat) (tt vt : TypeId) (ys olds : List Value) (w : World) (i0 : TypeInfo) (hi0 : Go.Proofs.Tryz.prog.info? 26 = some i0) (hz0 : i0.size = 4) (hi : i < n) (hn47 : n + 1 ≤ 140737488355328) (hroom : n + 1 ≤ c) (hsh : w.shape? b = some (tt, size)) (hsz : (n + 1) * 4 ≤ size) (hf : ∀ q, w.frozen? ⟨b, q, none⟩ = false)
    (hsv : w.shape? vb = some (vt, vsz)) (hfv : ∀ q, w.frozen? ⟨vb, q, none⟩ = false) (hvb : vb ≠ b)
    (hyl : ys.length = 4) (hys : ∀ j v, ys[j]? = some v → w.cell? ⟨vb, j, none⟩ = some v) (h1 : ∀ u ∈ ys, u.oneCell' = true)
    (hol : olds.length = (n - i) * 4) (holds : ∀ j v, olds[j]? = some v → w.cell? ⟨b, i * 4 + j, none⟩ = some v) (h1o : ∀ u ∈ olds, u.oneCell' = true) :
    Calls Go.Proofs.Tryz.prog 148 #[.slice (some ⟨b, 0, none⟩) n c, .int .i64 i, .slice (some ⟨vb, 0, none⟩) 1 vc] w fun e w' => e = .returned (.slice (some ⟨b, 0, none⟩) (n + 1) c) ∧
      w' = (w.drew.setCells b ((i + 1) * 4) olds).setCells b (i * 4) ys := by
  have mixed : Go.Proofs.Tryz.prog.follows .mixedOrders = true := Go.Ab.Tryz.mixed
  have hz2 : ¬ ((i : Int) = (n : Int)) := by omega
  have hsize : ∀ w, (Go.sizeOf 26).run Go.Proofs.Tryz.prog w = .ok 4 w := fun w => by simp [sizeOf, typeInfo, hi0, hz0]
  have hov : ∀ lb cb, (callFunc 221 #[.slice (some ⟨vb, 0, none⟩) 1 vc, .slice (some ⟨b, (i + 1) * 4, none⟩) lb cb]).run Go.Proofs.Tryz.prog w = .ok (.value (.bool false)) w := fun lb cb => by
    rw [run_callFunc_extern Go.Proofs.Tryz.func221 (by kernel_rfl) (by kernel_rfl) (by kernel_rfl) (e := Extern.SlicesOverlaps.overlaps #[27, 27] #[4]) (by kernel_rfl),
      Lib.run_overlaps_apart w 27 4 26 Go.Proofs.Tryz.underlying27 4 hsize ⟨vb, 0, none⟩ ⟨b, (i + 1) * 4, none⟩ 1 vc lb cb hvb vt tt vsz size hsv hsh (by omega) (hfv _) (hfv _)]
    rfl
  have hw1 : IntKind.i64.wrap ((i : Int) + 1) = (i : Int) + 1 := by rw [IntKind.wrap_i64]; omega
  have hb1 : (0 : Int) ≤ (i : Int) + 1 := by omega
  have hin : i ≤ n := by omega
  have htn : ((i : Int) + 1).toNat = i + 1 := by omega
  have hb2 : ¬ (c = i + 1) := by omega
  have hb3 : (i : Int) ≤ (n : Int) + 1 := by omega
  have hb4 : ¬ (c = i) := by omega
  have hcp1 : ∀ ty dc sc, (Builtin.copy_ #[27, 27] ty #[.slice (some ⟨b, (i + 1) * 4, none⟩) (n - i) dc, .slice (some ⟨b, i * 4, none⟩) (n + 1 - i) sc]).run Go.Proofs.Tryz.prog w.drew = .ok (goInt ((n - i : Nat) : Int)) (w.drew.setCells b ((i + 1) * 4) olds) := fun ty dc sc =>
    Go.Ab.run_copy_many (P := Go.Proofs.Tryz.prog) (w := w.drew) (n := n - i) (b := b) (off := (i + 1) * 4) (dl := n - i) (dc := dc) (sl := n + 1 - i) (sc := sc) (sa := ⟨b, i * 4, none⟩) (vs := olds) Go.Proofs.Tryz.underlying27 hi0 (by simp only [Nat.min_def]; split <;> omega) (by rw [hol, hz0]) (fun j v hj => by rw [Addr.add_lit]; exact holds j v hj)
      (fun j hj => Go.Ab.shape_cell (w := w.drew) hsh (by omega)) (fun j hj => hf _) h1o
  have hcp2 : ∀ ty dc, (Builtin.copy_ #[27, 27] ty #[.slice (some ⟨b, i * 4, none⟩) (n + 1 - i) dc, .slice (some ⟨vb, 0, none⟩) 1 vc]).run Go.Proofs.Tryz.prog (w.drew.setCells b ((i + 1) * 4) olds) = .ok (goInt 1) ((w.drew.setCells b ((i + 1) * 4) olds).setCells b (i * 4) ys) := fun ty dc =>
    Go.Ab.run_copy_many (P := Go.Proofs.Tryz.prog) (w := w.drew.setCells b ((i + 1) * 4) olds) (n := 1) (b := b) (off := i * 4) (dl := n + 1 - i) (dc := dc) (sl := 1) (sc := vc) (sa := ⟨vb, 0, none⟩) (vs := ys) Go.Proofs.Tryz.underlying27 hi0 (by simp only [Nat.min_def]; split <;> omega) (by rw [hyl, hz0]) (fun j v hj => by rw [Addr.add_lit, Nat.zero_add, World.cell?_setCells_out _ _ _ _ _ (fun h _ => absurd h hvb)]; exact hys j v hj)
      (fun j hj => Go.Ab.shape_cell (by rw [Go.Ab.setCells_shape]; exact hsh) (by omega)) (fun j hj => by rw [World.frozen?_setCells]; exact hf _) h1
  clear hsize hys holds hsh hsv hf hfv
  go_enter Go.Proofs.Tryz.func148, Go.Proofs.Tryz.ntmps148
  go_wp2_with (simp only [hov])

  go_region_law_o (refine step_copy_runI rfl _ _ 27 27 rfl _ _ (by simp [Act.eval, Act.put]) (by simp [Act.eval, Act.put]) (hcp1 _ _ _) ?_)
  go_wp2_with (at_builtin; refine wpList_copy_runI _ rfl _ _ 27 27 rfl _ _ rfl rfl (hcp2 _ _) ?_)
  go_ret
  first | exact ⟨rfl, rfl⟩
-- D: in between, no room
theorem ins148D (b n c i vb vc : Nat) (ys olds front : List Value) (w : World) (i0 : TypeInfo) (z : Value) (hi0 : Go.Proofs.Tryz.prog.info? 26 = some i0) (hz0 : i0.size = 4) (hz : i0.zero = some z) (hzs : z.cells.size = 4) (hb0 : 0 < i0.bytes) (hi : i < n) (hnc : n ≤ c) (hroom : c < n + 1) (hby : (n + 1) * i0.bytes ≤ 140737488355328)
    (hbw : b < w.heap.size) (hvw : vb < w.heap.size)
    (hfl : front.length = i * 4) (hfront : ∀ j v, front[j]? = some v → w.cell? ⟨b, j, none⟩ = some v)
    (hyl : ys.length = 4) (hys : ∀ j v, ys[j]? = some v → w.cell? ⟨vb, j, none⟩ = some v) (h1 : ∀ u ∈ ys, u.oneCell' = true)
    (hol : olds.length = (n - i) * 4) (holds : ∀ j v, olds[j]? = some v → w.cell? ⟨b, i * 4 + j, none⟩ = some v) (h1o : ∀ u ∈ olds, u.oneCell' = true) :
    Calls Go.Proofs.Tryz.prog 148 #[.slice (some ⟨b, 0, none⟩) n c, .int .i64 i, .slice (some ⟨vb, 0, none⟩) 1 vc] w fun e w' => ∃ ROW : Array Value, ROW.size = grownCap w (n + 1) c 26 * 4 ∧ ROW.toList.take (i * 4) = front ∧
      e = .returned (.slice (some ⟨w.heap.size, 0, none⟩) (n + 1) (grownCap w (n + 1) c 26)) ∧
      w' = (((w.drew.alloc (.cells ROW 26)).setCells w.heap.size (i * 4) ys).drew).setCells w.heap.size ((i + 1) * 4) olds := by
  have mixed : Go.Proofs.Tryz.prog.follows .mixedOrders = true := Go.Ab.Tryz.mixed
  have hz2 : ¬ ((i : Int) = (n : Int)) := by omega
  have hz3 : (c : Int) < (n : Int) + 1 := by omega
  have hkk : (n : Int) + 1 - (i : Int) = ((n + 1 - i : Nat) : Int) := by omega
  have hik : i + (n + 1 - i) = n + 1 := by omega
  have hold : (Builtin.firstCells i0.size i (.slice (some ⟨b, 0, none⟩) i c)).run Go.Proofs.Tryz.prog w.drew = .ok front.toArray w.drew := by
    rw [hz0]
    exact run_firstCells_some w.drew 4 i ⟨b, 0, none⟩ i c front hfl (fun j v hj => by rw [Addr.add_lit, Nat.zero_add]; exact hfront j v hj)
  have hk48 : (n + 1 - i) * i0.bytes ≤ 281474976710656 := by
    have : (n + 1 - i) * i0.bytes ≤ (n + 1) * i0.bytes := Nat.mul_le_mul_right _ (by omega)
    omega
  have hn47 : n + 1 ≤ 140737488355328 := by
    have : (n + 1) * 1 ≤ (n + 1) * i0.bytes := Nat.mul_le_mul_left _ hb0
    omega
  have hrz : ∀ ty, (Builtin.append_ #[27, 3] ty #[.slice (some ⟨b, 0, none⟩) i c, .int .i64 ((n : Int) + 1 - (i : Int))]).run Go.Proofs.Tryz.prog w =
      .ok (.slice (some ⟨w.heap.size, 0, none⟩) (n + 1) (grownCap w (n + 1) c 26)) (w.drew.alloc (.cells (front.toArray ++ Builtin.zeroCells z.cells (n + 1 - i) ++ Builtin.zeroCells z.cells (grownCap w (n + 1) c 26 - (n + 1))) 26)) := fun ty => by
    have h := Lib.run_append_grow_zeros w 27 3 ty 26 i0 _ .i64 .i64 Go.Proofs.Tryz.underlying27 Go.Proofs.Tryz.underlying3 hi0 hz (some ⟨b, 0, none⟩) i c front hold (n + 1 - i) (by omega) (by omega) (by omega) (by omega) hk48 (by rw [hik]; exact growslice_fits hroom hby)
    rw [hik] at h
    rw [hkk]
    exact h
  obtain ⟨G, hG⟩ : ∃ G, G = grownCap w (n + 1) c 26 := ⟨_, rfl⟩
  obtain ⟨ROW, hROW⟩ : ∃ ROW : Array Value, ROW = front.toArray ++ Builtin.zeroCells z.cells (n + 1 - i) ++ Builtin.zeroCells z.cells (G - (n + 1)) := ⟨_, rfl⟩
  rw [← hG] at hrz ⊢
  rw [← hROW] at hrz
  have hGn : n + 1 ≤ G := by rw [hG]; exact grownCap_ge w _ _ _
  have hRl : ROW.size = G * 4 := by
    rw [hROW]
    simp only [Array.size_append, List.size_toArray, hfl, Builtin.zeroCells, Array.size_map, Array.size_range, hzs]
    omega
  have hRt : ROW.toList.take (i * 4) = front := by
    rw [hROW]
    simp only [Array.toList_append, List.append_assoc]
    rw [← hfl, List.take_left']
    rfl
  obtain ⟨W1, hW1⟩ : ∃ W1, W1 = w.drew.alloc (.cells ROW 26) := ⟨_, rfl⟩
  rw [← hW1] at hrz
  have hN : ∀ j, j < (n + 1) * 4 → (W1.cell? ⟨w.heap.size, j, none⟩).isSome = true := fun j hj => by
    rw [hW1, World.cell?_alloc_at (w := w.drew) ROW _ w.heap.size j rfl, Array.getElem?_eq_getElem (by omega)]; rfl
  have hNf : ∀ j, W1.frozen? ⟨w.heap.size, j, none⟩ = false := fun j => by rw [hW1]; exact World.frozen?_alloc_at (w := w.drew) ROW _ w.heap.size j rfl
  have hOb : ∀ j v, w.cell? ⟨b, j, none⟩ = some v → W1.cell? ⟨b, j, none⟩ = some v := fun j v h => by rw [hW1, World.cell?_alloc_past (w := w.drew) _ b j hbw]; exact h
  have hOv : ∀ j v, w.cell? ⟨vb, j, none⟩ = some v → W1.cell? ⟨vb, j, none⟩ = some v := fun j v h => by rw [hW1, World.cell?_alloc_past (w := w.drew) _ vb j hvw]; exact h
  have hbN : b ≠ w.heap.size := by omega
  have hcpA : ∀ (W : World), (∀ x, W.cell? x = W1.cell? x) → (∀ x, W.frozen? x = W1.frozen? x) → ∀ ty dc, (Builtin.copy_ #[27, 27] ty #[.slice (some ⟨w.heap.size, i * 4, none⟩) (n + 1 - i) dc, .slice (some ⟨vb, 0, none⟩) 1 vc]).run Go.Proofs.Tryz.prog W = .ok (goInt 1) (W.setCells w.heap.size (i * 4) ys) := fun W hWc hWf ty dc =>
    Go.Ab.run_copy_many (P := Go.Proofs.Tryz.prog) (w := W) (n := 1) (b := w.heap.size) (off := i * 4) (dl := n + 1 - i) (dc := dc) (sl := 1) (sc := vc) (sa := ⟨vb, 0, none⟩) (vs := ys) Go.Proofs.Tryz.underlying27 hi0 (by simp only [Nat.min_def]; split <;> omega) (by rw [hyl, hz0])
      (fun j v hj => by rw [Addr.add_lit, Nat.zero_add, hWc]; exact hOv _ v (hys j v hj)) (fun j hj => by rw [hWc]; exact hN _ (by omega)) (fun j hj => by rw [hWf]; exact hNf _) h1
  have hcpB : ∀ (W : World), (∀ x, W.cell? x = (W1.setCells w.heap.size (i * 4) ys).cell? x) → (∀ x, W.frozen? x = (W1.setCells w.heap.size (i * 4) ys).frozen? x) → ∀ ty dc sc, (Builtin.copy_ #[27, 27] ty #[.slice (some ⟨w.heap.size, (i + 1) * 4, none⟩) (n - i) dc, .slice (some ⟨b, i * 4, none⟩) (n - i) sc]).run Go.Proofs.Tryz.prog W = .ok (goInt ((n - i : Nat) : Int)) (W.setCells w.heap.size ((i + 1) * 4) olds) := fun W hWc hWf ty dc sc =>
    Go.Ab.run_copy_many (P := Go.Proofs.Tryz.prog) (w := W) (n := n - i) (b := w.heap.size) (off := (i + 1) * 4) (dl := n - i) (dc := dc) (sl := n - i) (sc := sc) (sa := ⟨b, i * 4, none⟩) (vs := olds) Go.Proofs.Tryz.underlying27 hi0 (by simp only [Nat.min_def]; split <;> omega) (by rw [hol, hz0])
      (fun j v hj => by rw [Addr.add_lit, hWc, World.cell?_setCells_out _ _ _ _ _ (fun h _ => absurd h hbN)]; exact hOb _ v (holds j v hj))
      (fun j hj => by rw [hWc]; exact isSome_setCells _ _ _ _ (fun t ht => hN _ (by omega)) _ (hN _ (by omega)))
      (fun j hj => by rw [hWf, World.frozen?_setCells]; exact hNf _) h1o
  have hGi : ¬ (G = i) := by omega
  have hGim : ¬ (G = i + 1) := by omega
  have hci : ¬ (c = i) := by omega
  refine Calls.mono (R := fun e w' => e = .returned (.slice (some ⟨w.heap.size, 0, none⟩) (n + 1) G) ∧ w' = (((w.drew.alloc (.cells ROW 26)).setCells w.heap.size (i * 4) ys).drew).setCells w.heap.size ((i + 1) * 4) olds) ?_ (fun e w' h => ⟨ROW, hRl, hRt, h.1, h.2⟩)
  subst hW1
  have hE1 : ∀ x, ((w.alloc (.cells ROW 26)).drew).cell? x = (w.drew.alloc (.cells ROW 26)).cell? x := fun x => rfl
  have hE2 : ∀ x, ((w.alloc (.cells ROW 26)).drew).frozen? x = (w.drew.alloc (.cells ROW 26)).frozen? x := fun x => rfl
  have hF1 : ∀ x, (((w.alloc (.cells ROW 26)).drew.setCells w.heap.size (i * 4) ys).drew).cell? x = ((w.drew.alloc (.cells ROW 26)).setCells w.heap.size (i * 4) ys).cell? x := fun x => rfl
  have hF2 : ∀ x, (((w.alloc (.cells ROW 26)).drew.setCells w.heap.size (i * 4) ys).drew).frozen? x = ((w.drew.alloc (.cells ROW 26)).setCells w.heap.size (i * 4) ys).frozen? x := fun x => rfl
  have hw1 : IntKind.i64.wrap ((i : Int) + 1) = (i : Int) + 1 := by
    rw [IntKind.wrap_i64]; omega
  have hb1 : (0 : Int) ≤ (i : Int) + 1 := by omega
  have hin : i ≤ n := by omega
  have htn : ((i : Int) + 1).toNat = i + 1 := by omega
  have hb3 : (i : Int) ≤ (n : Int) := by omega
  clear hkk hik hold hROW hG hRl hRt hN hNf hOb hOv hys hfront holds hby hz
  go_enter Go.Proofs.Tryz.func148, Go.Proofs.Tryz.ntmps148
  go_wp2_with (first
    | (at_builtin; refine Lib.wpList_append_run _ rfl _ _ _ _ rfl _ _ rfl rfl _ _ (hrz _) ?_)
    | (at_builtin; refine wpList_copy_runI _ rfl _ _ 27 27 rfl _ _ rfl rfl (hcpA _ hE1 hE2 _ _) ?_)
    | (at_builtin; refine wpList_copy_runI _ rfl _ _ 27 27 rfl _ _ rfl rfl (hcpB _ (fun _ => rfl) (fun _ => rfl) _ _ _) ?_))
  go_region_law_o (refine step_copy_runI rfl _ _ 27 27 rfl (.slice (some ⟨w.heap.size, (i + 1) * 4, none⟩) (n - i) (G - (i + 1))) (.slice (some ⟨b, i * 4, none⟩) (n - i) (c - i)) (by simp [Act.eval, Act.put]) (by simp [Act.eval, Act.put]) (hcpB _ hF1 hF2 3 (G - (i + 1)) (c - i)) ?_)
  go_wp2
  go_ret
  exact ⟨rfl, rfl⟩
theorem ins148 : Go.Ab.InsCalls Go.Proofs.Tryz.prog 148 4 26 32 := by
  obtain ⟨i0, z, hi0, hz0, hb0, hz, hzs⟩ := Go.Ab.zeroFits_ok (Go.Ab.tabB_ok Go.Ab.Tryz.tabOk) (cfg := Go.Ab.Tryz.cfg) rfl (e := 26) rfl rfl
  have hz0 : i0.size = 4 := hz0
  have hb0 : i0.bytes = 32 := hb0
  have hzs : z.cells.size = 4 := hzs
  refine ⟨?_, ?_, ?_, ?_⟩
  · intro b n c vb vc size tt ys w hroom hsh hsz hf hyl hys h1
    exact ins148A i0 b n c vb vc size tt ys w hi0 hz0 hroom hsh hsz (fun q _ => hf q) hyl hys h1
  · intro ba n c vb vc ys olds w hnc hroom hby hfo hol hyl hys
    refine Calls.mono (ins148B ba n c vb vc ys olds w i0 z hi0 hz0 hz (by omega) hnc hroom (by rw [hb0]; exact hby) hfo hyl hys) fun x w' h => ?_
    refine ⟨_, _, grownCap_ge w (n + 1) c 26, ?_, ?_, h.1, h.2⟩
    · have := grownCap_ge w (n + 1) c 26
      simp only [List.size_toArray, List.length_append, Array.length_toList, hol, hyl, Builtin.zeroCells, Array.size_map, Array.size_range, hzs]
      omega
    · rw [List.take_left']
      rw [List.length_append, hol, hyl]
      omega
  · intro b n c i vb vc size vsz tt vt ys olds w hi hn hroom hsh hsz hf hsv hfv hvb hyl hys h1 hol holds h1o
    exact ins148C b n c i vb vc size vsz tt vt ys olds w i0 hi0 hz0 hi hn hroom hsh hsz hf hsv hfv hvb hyl hys h1 hol holds h1o
  · intro b n c i vb vc ys olds front w hi hnc hroom hby hbw hvw hfl hfront hyl hys h1 hol holds h1o
    refine Calls.mono (ins148D b n c i vb vc ys olds front w i0 z hi0 hz0 hz hzs (by omega) hi hnc hroom (by rw [hb0]; exact hby) hbw hvw hfl hfront hyl hys h1 hol holds h1o) fun x w' h => ?_
    obtain ⟨ROW, h1, h2, h3, h4⟩ := h
    exact ⟨ROW, _, grownCap_ge w (n + 1) c 26, h1, h2, h3, h4⟩
end Go.Hand
namespace Go.Ab
open Go Go.Proofs
theorem insert148 (xs : List AV) (y : AV) (i : Nat) (hi : i ≤ xs.length) (hby : (xs.length + 1) * 32 ≤ 140737488355328) : SoundCall Go.Proofs.Tryz.prog Tryz.phi 148 [.sref (.inc 0) 0 xs.length, .int .i64 i, .sref (.inc 1) 0 1] [.row 4 xs true true, .row 4 [y] true true] ⟨.sref (.out 0) 0 (xs.length + 1), [.gone, .gone], [.row 4 (xs.take i ++ y :: xs.drop i) true true]⟩ :=
  insert_sound Go.Hand.ins148 Go.Proofs.Tryz.func148 (by kernel_rfl) (by kernel_rfl) (by decide) (by decide) hi hby

end Go.Ab
namespace Go.Hand
open Go Go.Proofs Go.RowKit Go.Lib
-- A: at the end, room
theorem ins217A (i0 : TypeInfo) (b n c vb vc size : Nat) (tt : TypeId) (ys : List Value) (w : World) (hi0 : Go.Proofs.Tryz.prog.info? 42 = some i0) (hz0 : i0.size = 8) (hroom : n + 1 ≤ c) (hsh : w.shape? b = some (tt, size)) (hsz : (n + 1) * 8 ≤ size) (hf : ∀ q, q < size → w.frozen? ⟨b, q, none⟩ = false)
    (hyl : ys.length = 8) (hys : ∀ j v, ys[j]? = some v → w.cell? ⟨vb, j, none⟩ = some v) (h1 : ∀ u ∈ ys, u.oneCell' = true) :
    Calls Go.Proofs.Tryz.prog 217 #[.slice (some ⟨b, 0, none⟩) n c, .int .i64 n, .slice (some ⟨vb, 0, none⟩) 1 vc] w fun e w' => e = .returned (.slice (some ⟨b, 0, none⟩) (n + 1) c) ∧ w' = w.setCells b (n * 8) ys := by
  have mixed : Go.Proofs.Tryz.prog.follows .mixedOrders = true := Go.Ab.Tryz.mixed
  have hnc : n ≤ c := by omega
  have hfc : (Builtin.firstCells i0.size 1 (.slice (some ⟨vb, 0, none⟩) 1 vc)).run Go.Proofs.Tryz.prog w = .ok ys.toArray w := by
    rw [hz0]
    exact run_firstCells_some w 8 1 ⟨vb, 0, none⟩ 1 vc ys (by rw [hyl]) (fun j v hj => by rw [Addr.add_lit, Nat.zero_add]; exact hys j v hj)
  have hrun := fun ty => Go.Ab.app_room (P := Go.Proofs.Tryz.prog) (w := w) (ty := ty) (off := 0) (len := n) (cap := c) (n := 1) (b := b) Go.Proofs.Tryz.underlying37 Go.Proofs.Tryz.underlying37 (.inl ⟨_, rfl⟩) hi0 (by simp [Builtin.lenOf]) hfc hroom
    (fun j hj => by rw [hz0]; exact Go.Ab.shape_cell hsh (by omega)) (fun j hj => by rw [hz0]; exact hf _ (by omega)) h1
  simp only [hz0, Nat.zero_add] at hrun
  go_enter Go.Proofs.Tryz.func217, Go.Proofs.Tryz.ntmps217
  go_wp2_with (at_builtin; refine Lib.wpList_append_run _ rfl _ _ _ _ rfl _ _ rfl rfl _ _ (hrun _) ?_)
  go_ret
  exact ⟨rfl, rfl⟩
-- B: at the end, no room
theorem ins217B (ba : Option Addr) (n c vb vc : Nat) (ys olds : List Value) (w : World) (i0 : TypeInfo) (z : Value) (hi0 : Go.Proofs.Tryz.prog.info? 42 = some i0) (hz0 : i0.size = 8) (hz : i0.zero = some z) (hb0 : 0 < i0.bytes) (hnc : n ≤ c) (hroom : c < n + 1) (hby : (n + 1) * i0.bytes ≤ 140737488355328)
    (hfo : (Builtin.firstCells 8 n (.slice ba n c)).run Go.Proofs.Tryz.prog w.drew = .ok olds.toArray w.drew)
    (hyl : ys.length = 8) (hys : ∀ j v, ys[j]? = some v → w.cell? ⟨vb, j, none⟩ = some v) :
    Calls Go.Proofs.Tryz.prog 217 #[.slice ba n c, .int .i64 n, .slice (some ⟨vb, 0, none⟩) 1 vc] w fun e w' => e = .returned (.slice (some ⟨w.heap.size, 0, none⟩) (n + 1) (grownCap w (n + 1) c 42)) ∧
      w' = w.drew.alloc (.cells (olds ++ ys ++ (Builtin.zeroCells z.cells (grownCap w (n + 1) c 42 - (n + 1))).toList).toArray 42) := by
  have mixed : Go.Proofs.Tryz.prog.follows .mixedOrders = true := Go.Ab.Tryz.mixed
  have hfc : (Builtin.firstCells i0.size 1 (.slice (some ⟨vb, 0, none⟩) 1 vc)).run Go.Proofs.Tryz.prog w.drew = .ok ys.toArray w.drew := by
    rw [hz0]
    exact run_firstCells_some w.drew 8 1 ⟨vb, 0, none⟩ 1 vc ys (by rw [hyl]) (fun j v hj => by rw [Addr.add_lit, Nat.zero_add]; exact hys j v hj)
  have hrun := fun ty => Go.Ab.app_grow (P := Go.Proofs.Tryz.prog) (w := w) (ty := ty) (len := n) (cap := c) (n := 1) (b := ba) (olds := olds) (news := ys) (yv := .slice (some ⟨vb, 0, none⟩) 1 vc) Go.Proofs.Tryz.underlying37 Go.Proofs.Tryz.underlying37 (.inl ⟨_, rfl⟩) hi0 hz (by simp [Builtin.lenOf]) hfc (by rw [hz0]; exact hfo) hroom hby hb0
  generalize hG : grownCap w (n + 1) c 42 = G at hrun ⊢
  generalize hR : (olds ++ ys ++ (Builtin.zeroCells z.cells (G - (n + 1))).toList).toArray = ROW at hrun ⊢
  clear hG hR hfo hfc hz hby
  go_enter Go.Proofs.Tryz.func217, Go.Proofs.Tryz.ntmps217
  go_wp2_with (at_builtin; refine Lib.wpList_append_run _ rfl _ _ _ _ rfl _ _ rfl rfl _ _ (hrun _) ?_)
  go_ret
  exact ⟨rfl, rfl⟩
-- C: in between, room
theorem ins217C (b n c i vb vc size vsz : Nat) (tt vt : TypeId) (ys olds : List Value) (w : World) (i0 : TypeInfo) (hi0 : Go.Proofs.Tryz.prog.info? 42 = some i0) (hz0 : i0.size = 8) (hi : i < n) (hn47 : n + 1 ≤ 140737488355328) (hroom : n + 1 ≤ c) (hsh : w.shape? b = some (tt, size)) (hsz : (n + 1) * 8 ≤ size) (hf : ∀ q, w.frozen? ⟨b, q, none⟩ = false)
    (hsv : w.shape? vb = some (vt, vsz)) (hfv : ∀ q, w.frozen? ⟨vb, q, none⟩ = false) (hvb : vb ≠ b)
    (hyl : ys.length = 8) (hys : ∀ j v, ys[j]? = some v → w.cell? ⟨vb, j, none⟩ = some v) (h1 : ∀ u ∈ ys, u.oneCell' = true)
    (hol : olds.length = (n - i) * 8) (holds : ∀ j v, olds[j]? = some v → w.cell? ⟨b, i * 8 + j, none⟩ = some v) (h1o : ∀ u ∈ olds, u.oneCell' = true) :
    Calls Go.Proofs.Tryz.prog 217 #[.slice (some ⟨b, 0, none⟩) n c, .int .i64 i, .slice (some ⟨vb, 0, none⟩) 1 vc] w fun e w' => e = .returned (.slice (some ⟨b, 0, none⟩) (n + 1) c) ∧
      w' = (w.drew.setCells b ((i + 1) * 8) olds).setCells b (i * 8) ys := by
  have mixed : Go.Proofs.Tryz.prog.follows .mixedOrders = true := Go.Ab.Tryz.mixed
  have hz2 : ¬ ((i : Int) = (n : Int)) := by omega
  have hsize : ∀ w, (Go.sizeOf 42).run Go.Proofs.Tryz.prog w = .ok 8 w := fun w => by simp [sizeOf, typeInfo, hi0, hz0]
  have hov : ∀ lb cb, (callFunc 265 #[.slice (some ⟨vb, 0, none⟩) 1 vc, .slice (some ⟨b, (i + 1) * 8, none⟩) lb cb]).run Go.Proofs.Tryz.prog w = .ok (.value (.bool false)) w := fun lb cb => by
    rw [run_callFunc_extern Go.Proofs.Tryz.func265 (by kernel_rfl) (by kernel_rfl) (by kernel_rfl) (e := Extern.SlicesOverlaps.overlaps #[37, 37] #[4]) (by kernel_rfl),
      Lib.run_overlaps_apart w 37 4 42 Go.Proofs.Tryz.underlying37 8 hsize ⟨vb, 0, none⟩ ⟨b, (i + 1) * 8, none⟩ 1 vc lb cb hvb vt tt vsz size hsv hsh (by omega) (hfv _) (hfv _)]
    rfl
  have hw1 : IntKind.i64.wrap ((i : Int) + 1) = (i : Int) + 1 := by rw [IntKind.wrap_i64]; omega
  have hb1 : (0 : Int) ≤ (i : Int) + 1 := by omega
  have hin : i ≤ n := by omega
  have htn : ((i : Int) + 1).toNat = i + 1 := by omega
  have hb2 : ¬ (c = i + 1) := by omega
  have hb3 : (i : Int) ≤ (n : Int) + 1 := by omega
  have hb4 : ¬ (c = i) := by omega
  have hcp1 : ∀ ty dc sc, (Builtin.copy_ #[37, 37] ty #[.slice (some ⟨b, (i + 1) * 8, none⟩) (n - i) dc, .slice (some ⟨b, i * 8, none⟩) (n + 1 - i) sc]).run Go.Proofs.Tryz.prog w.drew = .ok (goInt ((n - i : Nat) : Int)) (w.drew.setCells b ((i + 1) * 8) olds) := fun ty dc sc =>
    Go.Ab.run_copy_many (P := Go.Proofs.Tryz.prog) (w := w.drew) (n := n - i) (b := b) (off := (i + 1) * 8) (dl := n - i) (dc := dc) (sl := n + 1 - i) (sc := sc) (sa := ⟨b, i * 8, none⟩) (vs := olds) Go.Proofs.Tryz.underlying37 hi0 (by simp only [Nat.min_def]; split <;> omega) (by rw [hol, hz0]) (fun j v hj => by rw [Addr.add_lit]; exact holds j v hj)
      (fun j hj => Go.Ab.shape_cell (w := w.drew) hsh (by omega)) (fun j hj => hf _) h1o
  have hcp2 : ∀ ty dc, (Builtin.copy_ #[37, 37] ty #[.slice (some ⟨b, i * 8, none⟩) (n + 1 - i) dc, .slice (some ⟨vb, 0, none⟩) 1 vc]).run Go.Proofs.Tryz.prog (w.drew.setCells b ((i + 1) * 8) olds) = .ok (goInt 1) ((w.drew.setCells b ((i + 1) * 8) olds).setCells b (i * 8) ys) := fun ty dc =>
    Go.Ab.run_copy_many (P := Go.Proofs.Tryz.prog) (w := w.drew.setCells b ((i + 1) * 8) olds) (n := 1) (b := b) (off := i * 8) (dl := n + 1 - i) (dc := dc) (sl := 1) (sc := vc) (sa := ⟨vb, 0, none⟩) (vs := ys) Go.Proofs.Tryz.underlying37 hi0 (by simp only [Nat.min_def]; split <;> omega) (by rw [hyl, hz0]) (fun j v hj => by rw [Addr.add_lit, Nat.zero_add, World.cell?_setCells_out _ _ _ _ _ (fun h _ => absurd h hvb)]; exact hys j v hj)
      (fun j hj => Go.Ab.shape_cell (by rw [Go.Ab.setCells_shape]; exact hsh) (by omega)) (fun j hj => by rw [World.frozen?_setCells]; exact hf _) h1
  clear hsize hys holds hsh hsv hf hfv
  go_enter Go.Proofs.Tryz.func217, Go.Proofs.Tryz.ntmps217
  go_wp2_with (simp only [hov])

  go_region_law_o (refine step_copy_runI rfl _ _ 37 37 rfl _ _ (by simp [Act.eval, Act.put]) (by simp [Act.eval, Act.put]) (hcp1 _ _ _) ?_)
  go_wp2_with (at_builtin; refine wpList_copy_runI _ rfl _ _ 37 37 rfl _ _ rfl rfl (hcp2 _ _) ?_)
  go_ret
  first | exact ⟨rfl, rfl⟩
-- D: in between, no room
theorem ins217D (b n c i vb vc : Nat) (ys olds front : List Value) (w : World) (i0 : TypeInfo) (z : Value) (hi0 : Go.Proofs.Tryz.prog.info? 42 = some i0) (hz0 : i0.size = 8) (hz : i0.zero = some z) (hzs : z.cells.size = 8) (hb0 : 0 < i0.bytes) (hi : i < n) (hnc : n ≤ c) (hroom : c < n + 1) (hby : (n + 1) * i0.bytes ≤ 140737488355328)
    (hbw : b < w.heap.size) (hvw : vb < w.heap.size)
    (hfl : front.length = i * 8) (hfront : ∀ j v, front[j]? = some v → w.cell? ⟨b, j, none⟩ = some v)
    (hyl : ys.length = 8) (hys : ∀ j v, ys[j]? = some v → w.cell? ⟨vb, j, none⟩ = some v) (h1 : ∀ u ∈ ys, u.oneCell' = true)
    (hol : olds.length = (n - i) * 8) (holds : ∀ j v, olds[j]? = some v → w.cell? ⟨b, i * 8 + j, none⟩ = some v) (h1o : ∀ u ∈ olds, u.oneCell' = true) :
    Calls Go.Proofs.Tryz.prog 217 #[.slice (some ⟨b, 0, none⟩) n c, .int .i64 i, .slice (some ⟨vb, 0, none⟩) 1 vc] w fun e w' => ∃ ROW : Array Value, ROW.size = grownCap w (n + 1) c 42 * 8 ∧ ROW.toList.take (i * 8) = front ∧
      e = .returned (.slice (some ⟨w.heap.size, 0, none⟩) (n + 1) (grownCap w (n + 1) c 42)) ∧
      w' = (((w.drew.alloc (.cells ROW 42)).setCells w.heap.size (i * 8) ys).drew).setCells w.heap.size ((i + 1) * 8) olds := by
  have mixed : Go.Proofs.Tryz.prog.follows .mixedOrders = true := Go.Ab.Tryz.mixed
  have hz2 : ¬ ((i : Int) = (n : Int)) := by omega
  have hz3 : (c : Int) < (n : Int) + 1 := by omega
  have hkk : (n : Int) + 1 - (i : Int) = ((n + 1 - i : Nat) : Int) := by omega
  have hik : i + (n + 1 - i) = n + 1 := by omega
  have hold : (Builtin.firstCells i0.size i (.slice (some ⟨b, 0, none⟩) i c)).run Go.Proofs.Tryz.prog w.drew = .ok front.toArray w.drew := by
    rw [hz0]
    exact run_firstCells_some w.drew 8 i ⟨b, 0, none⟩ i c front hfl (fun j v hj => by rw [Addr.add_lit, Nat.zero_add]; exact hfront j v hj)
  have hk48 : (n + 1 - i) * i0.bytes ≤ 281474976710656 := by
    have : (n + 1 - i) * i0.bytes ≤ (n + 1) * i0.bytes := Nat.mul_le_mul_right _ (by omega)
    omega
  have hn47 : n + 1 ≤ 140737488355328 := by
    have : (n + 1) * 1 ≤ (n + 1) * i0.bytes := Nat.mul_le_mul_left _ hb0
    omega
  have hrz : ∀ ty, (Builtin.append_ #[37, 3] ty #[.slice (some ⟨b, 0, none⟩) i c, .int .i64 ((n : Int) + 1 - (i : Int))]).run Go.Proofs.Tryz.prog w =
      .ok (.slice (some ⟨w.heap.size, 0, none⟩) (n + 1) (grownCap w (n + 1) c 42)) (w.drew.alloc (.cells (front.toArray ++ Builtin.zeroCells z.cells (n + 1 - i) ++ Builtin.zeroCells z.cells (grownCap w (n + 1) c 42 - (n + 1))) 42)) := fun ty => by
    have h := Lib.run_append_grow_zeros w 37 3 ty 42 i0 _ .i64 .i64 Go.Proofs.Tryz.underlying37 Go.Proofs.Tryz.underlying3 hi0 hz (some ⟨b, 0, none⟩) i c front hold (n + 1 - i) (by omega) (by omega) (by omega) (by omega) hk48 (by rw [hik]; exact growslice_fits hroom hby)
    rw [hik] at h
    rw [hkk]
    exact h
  obtain ⟨G, hG⟩ : ∃ G, G = grownCap w (n + 1) c 42 := ⟨_, rfl⟩
  obtain ⟨ROW, hROW⟩ : ∃ ROW : Array Value, ROW = front.toArray ++ Builtin.zeroCells z.cells (n + 1 - i) ++ Builtin.zeroCells z.cells (G - (n + 1)) := ⟨_, rfl⟩
  rw [← hG] at hrz ⊢
  rw [← hROW] at hrz
  have hGn : n + 1 ≤ G := by rw [hG]; exact grownCap_ge w _ _ _
  have hRl : ROW.size = G * 8 := by
    rw [hROW]
    simp only [Array.size_append, List.size_toArray, hfl, Builtin.zeroCells, Array.size_map, Array.size_range, hzs]
    omega
  have hRt : ROW.toList.take (i * 8) = front := by
    rw [hROW]
    simp only [Array.toList_append, List.append_assoc]
    rw [← hfl, List.take_left']
    rfl
  obtain ⟨W1, hW1⟩ : ∃ W1, W1 = w.drew.alloc (.cells ROW 42) := ⟨_, rfl⟩
  rw [← hW1] at hrz
  have hN : ∀ j, j < (n + 1) * 8 → (W1.cell? ⟨w.heap.size, j, none⟩).isSome = true := fun j hj => by
    rw [hW1, World.cell?_alloc_at (w := w.drew) ROW _ w.heap.size j rfl, Array.getElem?_eq_getElem (by omega)]; rfl
  have hNf : ∀ j, W1.frozen? ⟨w.heap.size, j, none⟩ = false := fun j => by rw [hW1]; exact World.frozen?_alloc_at (w := w.drew) ROW _ w.heap.size j rfl
  have hOb : ∀ j v, w.cell? ⟨b, j, none⟩ = some v → W1.cell? ⟨b, j, none⟩ = some v := fun j v h => by rw [hW1, World.cell?_alloc_past (w := w.drew) _ b j hbw]; exact h
  have hOv : ∀ j v, w.cell? ⟨vb, j, none⟩ = some v → W1.cell? ⟨vb, j, none⟩ = some v := fun j v h => by rw [hW1, World.cell?_alloc_past (w := w.drew) _ vb j hvw]; exact h
  have hbN : b ≠ w.heap.size := by omega
  have hcpA : ∀ (W : World), (∀ x, W.cell? x = W1.cell? x) → (∀ x, W.frozen? x = W1.frozen? x) → ∀ ty dc, (Builtin.copy_ #[37, 37] ty #[.slice (some ⟨w.heap.size, i * 8, none⟩) (n + 1 - i) dc, .slice (some ⟨vb, 0, none⟩) 1 vc]).run Go.Proofs.Tryz.prog W = .ok (goInt 1) (W.setCells w.heap.size (i * 8) ys) := fun W hWc hWf ty dc =>
    Go.Ab.run_copy_many (P := Go.Proofs.Tryz.prog) (w := W) (n := 1) (b := w.heap.size) (off := i * 8) (dl := n + 1 - i) (dc := dc) (sl := 1) (sc := vc) (sa := ⟨vb, 0, none⟩) (vs := ys) Go.Proofs.Tryz.underlying37 hi0 (by simp only [Nat.min_def]; split <;> omega) (by rw [hyl, hz0])
      (fun j v hj => by rw [Addr.add_lit, Nat.zero_add, hWc]; exact hOv _ v (hys j v hj)) (fun j hj => by rw [hWc]; exact hN _ (by omega)) (fun j hj => by rw [hWf]; exact hNf _) h1
  have hcpB : ∀ (W : World), (∀ x, W.cell? x = (W1.setCells w.heap.size (i * 8) ys).cell? x) → (∀ x, W.frozen? x = (W1.setCells w.heap.size (i * 8) ys).frozen? x) → ∀ ty dc sc, (Builtin.copy_ #[37, 37] ty #[.slice (some ⟨w.heap.size, (i + 1) * 8, none⟩) (n - i) dc, .slice (some ⟨b, i * 8, none⟩) (n - i) sc]).run Go.Proofs.Tryz.prog W = .ok (goInt ((n - i : Nat) : Int)) (W.setCells w.heap.size ((i + 1) * 8) olds) := fun W hWc hWf ty dc sc =>
    Go.Ab.run_copy_many (P := Go.Proofs.Tryz.prog) (w := W) (n := n - i) (b := w.heap.size) (off := (i + 1) * 8) (dl := n - i) (dc := dc) (sl := n - i) (sc := sc) (sa := ⟨b, i * 8, none⟩) (vs := olds) Go.Proofs.Tryz.underlying37 hi0 (by simp only [Nat.min_def]; split <;> omega) (by rw [hol, hz0])
      (fun j v hj => by rw [Addr.add_lit, hWc, World.cell?_setCells_out _ _ _ _ _ (fun h _ => absurd h hbN)]; exact hOb _ v (holds j v hj))
      (fun j hj => by rw [hWc]; exact isSome_setCells _ _ _ _ (fun t ht => hN _ (by omega)) _ (hN _ (by omega)))
      (fun j hj => by rw [hWf, World.frozen?_setCells]; exact hNf _) h1o
  have hGi : ¬ (G = i) := by omega
  have hGim : ¬ (G = i + 1) := by omega
  have hci : ¬ (c = i) := by omega
  refine Calls.mono (R := fun e w' => e = .returned (.slice (some ⟨w.heap.size, 0, none⟩) (n + 1) G) ∧ w' = (((w.drew.alloc (.cells ROW 42)).setCells w.heap.size (i * 8) ys).drew).setCells w.heap.size ((i + 1) * 8) olds) ?_ (fun e w' h => ⟨ROW, hRl, hRt, h.1, h.2⟩)
  subst hW1
  have hE1 : ∀ x, ((w.alloc (.cells ROW 42)).drew).cell? x = (w.drew.alloc (.cells ROW 42)).cell? x := fun x => rfl
  have hE2 : ∀ x, ((w.alloc (.cells ROW 42)).drew).frozen? x = (w.drew.alloc (.cells ROW 42)).frozen? x := fun x => rfl
  have hF1 : ∀ x, (((w.alloc (.cells ROW 42)).drew.setCells w.heap.size (i * 8) ys).drew).cell? x = ((w.drew.alloc (.cells ROW 42)).setCells w.heap.size (i * 8) ys).cell? x := fun x => rfl
  have hF2 : ∀ x, (((w.alloc (.cells ROW 42)).drew.setCells w.heap.size (i * 8) ys).drew).frozen? x = ((w.drew.alloc (.cells ROW 42)).setCells w.heap.size (i * 8) ys).frozen? x := fun x => rfl
  have hw1 : IntKind.i64.wrap ((i : Int) + 1) = (i : Int) + 1 := by
    rw [IntKind.wrap_i64]; omega
  have hb1 : (0 : Int) ≤ (i : Int) + 1 := by omega
  have hin : i ≤ n := by omega
  have htn : ((i : Int) + 1).toNat = i + 1 := by omega
  have hb3 : (i : Int) ≤ (n : Int) := by omega
  clear hkk hik hold hROW hG hRl hRt hN hNf hOb hOv hys hfront holds hby hz
  go_enter Go.Proofs.Tryz.func217, Go.Proofs.Tryz.ntmps217
  go_wp2_with (first
    | (at_builtin; refine Lib.wpList_append_run _ rfl _ _ _ _ rfl _ _ rfl rfl _ _ (hrz _) ?_)
    | (at_builtin; refine wpList_copy_runI _ rfl _ _ 37 37 rfl _ _ rfl rfl (hcpA _ hE1 hE2 _ _) ?_)
    | (at_builtin; refine wpList_copy_runI _ rfl _ _ 37 37 rfl _ _ rfl rfl (hcpB _ (fun _ => rfl) (fun _ => rfl) _ _ _) ?_))
  go_region_law_o (refine step_copy_runI rfl _ _ 37 37 rfl (.slice (some ⟨w.heap.size, (i + 1) * 8, none⟩) (n - i) (G - (i + 1))) (.slice (some ⟨b, i * 8, none⟩) (n - i) (c - i)) (by simp [Act.eval, Act.put]) (by simp [Act.eval, Act.put]) (hcpB _ hF1 hF2 3 (G - (i + 1)) (c - i)) ?_)
  go_wp2
  go_ret
  exact ⟨rfl, rfl⟩
theorem ins217 : Go.Ab.InsCalls Go.Proofs.Tryz.prog 217 8 42 96 := by
  obtain ⟨i0, z, hi0, hz0, hb0, hz, hzs⟩ := Go.Ab.zeroFits_ok (Go.Ab.tabB_ok Go.Ab.Tryz.tabOk) (cfg := Go.Ab.Tryz.cfg) rfl (e := 42) rfl rfl
  have hz0 : i0.size = 8 := hz0
  have hb0 : i0.bytes = 96 := hb0
  have hzs : z.cells.size = 8 := hzs
  refine ⟨?_, ?_, ?_, ?_⟩
  · intro b n c vb vc size tt ys w hroom hsh hsz hf hyl hys h1
    exact ins217A i0 b n c vb vc size tt ys w hi0 hz0 hroom hsh hsz (fun q _ => hf q) hyl hys h1
  · intro ba n c vb vc ys olds w hnc hroom hby hfo hol hyl hys
    refine Calls.mono (ins217B ba n c vb vc ys olds w i0 z hi0 hz0 hz (by omega) hnc hroom (by rw [hb0]; exact hby) hfo hyl hys) fun x w' h => ?_
    refine ⟨_, _, grownCap_ge w (n + 1) c 42, ?_, ?_, h.1, h.2⟩
    · have := grownCap_ge w (n + 1) c 42
      simp only [List.size_toArray, List.length_append, Array.length_toList, hol, hyl, Builtin.zeroCells, Array.size_map, Array.size_range, hzs]
      omega
    · rw [List.take_left']
      rw [List.length_append, hol, hyl]
      omega
  · intro b n c i vb vc size vsz tt vt ys olds w hi hn hroom hsh hsz hf hsv hfv hvb hyl hys h1 hol holds h1o
    exact ins217C b n c i vb vc size vsz tt vt ys olds w i0 hi0 hz0 hi hn hroom hsh hsz hf hsv hfv hvb hyl hys h1 hol holds h1o
  · intro b n c i vb vc ys olds front w hi hnc hroom hby hbw hvw hfl hfront hyl hys h1 hol holds h1o
    refine Calls.mono (ins217D b n c i vb vc ys olds front w i0 z hi0 hz0 hz hzs (by omega) hi hnc hroom (by rw [hb0]; exact hby) hbw hvw hfl hfront hyl hys h1 hol holds h1o) fun x w' h => ?_
    obtain ⟨ROW, h1, h2, h3, h4⟩ := h
    exact ⟨ROW, _, grownCap_ge w (n + 1) c 42, h1, h2, h3, h4⟩
end Go.Hand
namespace Go.Ab
open Go Go.Proofs
theorem insert217 (xs : List AV) (y : AV) (i : Nat) (hi : i ≤ xs.length) (hby : (xs.length + 1) * 96 ≤ 140737488355328) : SoundCall Go.Proofs.Tryz.prog Tryz.phi 217 [.sref (.inc 0) 0 xs.length, .int .i64 i, .sref (.inc 1) 0 1] [.row 8 xs true true, .row 8 [y] true true] ⟨.sref (.out 0) 0 (xs.length + 1), [.gone, .gone], [.row 8 (xs.take i ++ y :: xs.drop i) true true]⟩ :=
  insert_sound Go.Hand.ins217 Go.Proofs.Tryz.func217 (by kernel_rfl) (by kernel_rfl) (by decide) (by decide) hi hby

end Go.Ab
namespace Go.Hand
open Go Go.Proofs Go.RowKit Go.Lib
theorem del284 : Go.Ab.DelCalls Go.Proofs.Tryz.prog 284 4 (.agg #[.int .i64 0, .int .i64 0, .string ⟨#[]⟩, .bool false] : Value).cells := by
  intro b n c i j news zs w tt size hi hj hc hsz hnl hnews hn1 hfz hsh hzs hz1 hzl
  have mixed : Go.Proofs.Tryz.prog.follows .mixedOrders = true := Go.Ab.Tryz.mixed
  obtain ⟨i0, hi0, hz0⟩ : ∃ i0, Go.Proofs.Tryz.prog.info? 103 = some i0 ∧ i0.size = 4 := by
    obtain ⟨i0, _, h1, h2, _⟩ := (Go.Ab.tabB_ok Go.Ab.Tryz.tabOk).get (t := 103) rfl
    exact ⟨i0, h1, h2⟩
  have hz := Go.Proofs.Tryz.zeroValue103
  have hne : ¬ ((i : Int) = (j : Int)) := by omega
  have hjn : (j : Int) ≤ (n : Int) := by omega
  have hic : i ≤ c := by omega
  have hjc : j ≤ c := by omega
  obtain ⟨A, hA, hsrc⟩ : ∃ A : Addr, (if c = j then some (⟨b, 0, none⟩ : Addr) else some ⟨b, j * 4, none⟩) = some A ∧ (∀ t u, news[t]? = some u → w.drew.cell? (A.add t) = some u) := by
    by_cases h : c = j
    · refine ⟨⟨b, 0, none⟩, by simp [h], fun t u hu => ?_⟩
      have h0 : news.length = 0 := by rw [hnl]; have : n - j = 0 := by omega
                                      rw [this]
      rw [List.length_eq_zero_iff.1 h0] at hu
      simp at hu
    · refine ⟨⟨b, j * 4, none⟩, by simp [h], fun t u hu => ?_⟩
      rw [Addr.add_lit]
      exact hnews t u hu
  have s3 : ∀ t, t < news.length → (w.drew.cell? ⟨b, 0 + i * 4 + t, none⟩).isSome = true ∧ w.drew.frozen? ⟨b, 0 + i * 4 + t, none⟩ = false := by
    intro t ht
    rw [hnl] at ht
    rw [Nat.zero_add]
    exact ⟨Go.Ab.shape_cell (w := w) hsh (by omega), hfz _ (by omega)⟩
  have hcl : ∀ ty, (Builtin.clear_ #[36] ty #[.slice (some ⟨b, (i + (n - j)) * 4, none⟩) (n - (i + (n - j))) (c - (i + (n - j)))]).run Go.Proofs.Tryz.prog (w.drew.setCells b (i * 4) news) = .ok (.tuple #[]) ((w.drew.setCells b (i * 4) news).setCells b ((i + (n - j)) * 4) zs) := fun ty =>
    Go.Ab.run_clear_cells Go.Proofs.Tryz.underlying36 hz (by omega) (by rw [show n - (i + (n - j)) = j - i by omega]; exact hzs)
      (fun t ht => by exact Go.Ab.shape_cell (by rw [Go.Ab.setCells_shape]; exact hsh) (by omega)) (fun t ht => by rw [World.frozen?_setCells]; exact hfz _ (by omega)) hz1
  go_enter Go.Proofs.Tryz.func284, Go.Proofs.Tryz.ntmps284
  go_wp2_with fail
  go_region_law_o (refine step_append_room rfl (.tmp 22) (.tmp 25) 36 rfl 103 i0 4 Go.Proofs.Tryz.underlying36 hi0 hz0 b 0 i c (by simp [Act.eval, Act.put]) A (n - j) (c - j) news (by simp [Act.eval, Act.put]) hnl hsrc hn1 (by omega) s3 ?_; rw [Nat.zero_add])
  go_wp2
  go_ret
  exact ⟨by rw [show n - (j - i) = i + (n - j) by omega]; rfl, rfl⟩
end Go.Hand
namespace Go.Ab
open Go Go.Proofs
theorem delete284 (xs : List AV) (i j : Nat) (hij : i < j) (hj : j ≤ xs.length) : SoundCall Go.Proofs.Tryz.prog Tryz.phi 284 [.sref (.inc 0) 0 xs.length, .int .i64 i, .int .i64 j] [.row 4 xs true true] ⟨.sref (.inc 0) 0 (xs.length - (j - i)), [.row 4 (rowDel (.agg [.int .i64 0, .int .i64 0, .str [], .bool false]) xs i j) true true], []⟩ :=
  delete_sound (z := .agg [.int .i64 0, .int .i64 0, .str [], .bool false]) Go.Hand.del284 Go.Proofs.Tryz.func284 (by kernel_rfl) (by kernel_rfl) (R.cells (R.value (v := .agg #[.int .i64 0, .int .i64 0, .string ⟨#[]⟩, .bool false]) rfl) (by simp)) rfl rfl hij hj
def Tryz.meths : List (Nat × String × Nat × Bool) := [(211, "Unwrap", 379, false), (255, "Unwrap", 384, false), (287, "Unwrap", 387, false), (289, "AssignableTo", 389, false), (289, "Comparable", 390, false), (289, "Elem", 391, false), (289, "Implements", 392, false), (324, "Unwrap", 401, false), (327, "Unwrap", 403, false), (373, "Unwrap", 407, false), (376, "Unwrap", 409, false), (389, "Unwrap", 411, false), (394, "Unwrap", 413, false), (412, "Unwrap", 418, false), (414, "Unwrap", 420, false), (289, "Kind", 371, true)]
theorem Tryz.methsOk : MethTab Go.Proofs.Tryz.prog Tryz.meths := ⟨fun w v => by kernel_rfl, fun w v => by kernel_rfl, fun w v => by kernel_rfl, fun w v => by kernel_rfl, fun w v => by kernel_rfl, fun w v => by kernel_rfl, fun w v => by kernel_rfl, fun w v => by kernel_rfl, fun w v => by kernel_rfl, fun w v => by kernel_rfl, fun w v => by kernel_rfl, fun w v => by kernel_rfl, fun w v => by kernel_rfl, fun w v => by kernel_rfl, fun w v => by kernel_rfl, fun w v => by kernel_rfl, trivial⟩
def Tryz.tas : List (Nat × Nat × Bool) := [(9, 293, false), (9, 296, false), (9, 297, false), (9, 305, false), (135, 293, false), (135, 296, false), (135, 297, false), (135, 305, false), (144, 293, false), (144, 296, false), (144, 297, false), (144, 305, false), (146, 293, false), (146, 296, false), (146, 297, false), (146, 305, false), (162, 293, false), (162, 296, false), (162, 297, false), (162, 305, false), (163, 293, false), (163, 296, false), (163, 297, false), (163, 305, false), (168, 293, false), (168, 296, false), (168, 297, false), (168, 305, false), (211, 293, false), (211, 296, true), (211, 297, false), (211, 305, false), (212, 293, false), (212, 296, false), (212, 297, false), (212, 305, false), (255, 293, false), (255, 296, true), (255, 297, false), (255, 305, false), (270, 293, false), (270, 296, false), (270, 297, false), (270, 305, false), (272, 293, false), (272, 296, false), (272, 297, false), (272, 305, false), (287, 293, false), (287, 296, true), (287, 297, false), (287, 305, false), (309, 293, false), (309, 296, false), (309, 297, false), (309, 305, false), (324, 293, false), (324, 296, true), (324, 297, false), (324, 305, false), (327, 293, false), (327, 296, false), (327, 297, true), (327, 305, false), (349, 293, false), (349, 296, false), (349, 297, false), (349, 305, false), (359, 293, false), (359, 296, false), (359, 297, false), (359, 305, false), (373, 293, false), (373, 296, true), (373, 297, false), (373, 305, false), (376, 293, false), (376, 296, true), (376, 297, false), (376, 305, false), (389, 293, false), (389, 296, true), (389, 297, false), (389, 305, false), (394, 293, false), (394, 296, true), (394, 297, false), (394, 305, false), (402, 293, false), (402, 296, false), (402, 297, false), (402, 305, false), (403, 293, false), (403, 296, false), (403, 297, false), (403, 305, false), (408, 293, false), (408, 296, false), (408, 297, false), (408, 305, false), (409, 293, false), (409, 296, false), (409, 297, false), (409, 305, false), (412, 293, false), (412, 296, true), (412, 297, false), (412, 305, false), (414, 293, false), (414, 296, true), (414, 297, false), (414, 305, false)]
theorem Tryz.tasOk : taB Go.Proofs.Tryz.prog Tryz.tas = true := by kernel_rfl
def Tryz.cmps : List (Nat × Bool) := [(9, true), (135, true), (144, true), (146, true), (162, true), (163, true), (168, true), (211, true), (212, true), (255, true), (270, true), (272, true), (287, true), (309, true), (324, true), (327, true), (349, true), (359, true), (373, true), (376, true), (389, true), (394, true), (402, true), (403, true), (408, true), (409, true), (412, true), (414, true)]
theorem Tryz.cmpsOk : HandleTab Go.Proofs.Tryz.prog (Extern.ReflectliteType.method fun t => do Extern.Rtype.noPackHeld "Comparable" t; pure (.bool (← typeInfo t).comparable)) 4 Tryz.cmps := ⟨fun w => by kernel_rfl, fun w => by kernel_rfl, fun w => by kernel_rfl, fun w => by kernel_rfl, fun w => by kernel_rfl, fun w => by kernel_rfl, fun w => by kernel_rfl, fun w => by kernel_rfl, fun w => by kernel_rfl, fun w => by kernel_rfl, fun w => by kernel_rfl, fun w => by kernel_rfl, fun w => by kernel_rfl, fun w => by kernel_rfl, fun w => by kernel_rfl, fun w => by kernel_rfl, fun w => by kernel_rfl, fun w => by kernel_rfl, fun w => by kernel_rfl, fun w => by kernel_rfl, fun w => by kernel_rfl, fun w => by kernel_rfl, fun w => by kernel_rfl, fun w => by kernel_rfl, fun w => by kernel_rfl, fun w => by kernel_rfl, fun w => by kernel_rfl, fun w => by kernel_rfl, trivial⟩
theorem Tryz.typeOf (t : TypeId) (v : Value) (w : World) : (Extern.ReflectliteType.typeOf #[.iface t v]).run Go.Proofs.Tryz.prog w = .ok (.iface 289 (.agg #[.pointer (some ⟨4, t, none⟩)])) w := by kernel_rfl
noncomputable def Tryz.E : Env := { cfg := Tryz.cfg, fn := look1 Tryz.fns, meth := lookM Tryz.meths, ta := look2o Tryz.tas, known := orK (kIns 148 4 32) (orK (kIns 217 8 96) (orK (kDel 284 4 (.agg [.int .i64 0, .int .i64 0, .str [], .bool false])) (orK (kIdx 336) (orK (kHandle 390 4 Tryz.cmps) (orK (kTypeOf 196 289 4) (fun _ _ _ => none)))))) }
theorem Tryz.envOk : EnvOk Go.Proofs.Tryz.prog Tryz.phi Tryz.X Tryz.E := Go.Ab.envOk Tryz.ok rfl rfl rfl Tryz.fnsOk (fun _ _ _ _ h => MethTab.get Tryz.methsOk h) (fun _ _ _ h => taB_ok Tryz.tasOk h) (orK_ok (fun _ _ _ _ h => kIns_ok insert148 h) (orK_ok (fun _ _ _ _ h => kIns_ok insert217 h) (orK_ok (fun _ _ _ _ h => kDel_ok delete284 h) (orK_ok (fun _ _ _ _ h => kIdx_ok Go.Proofs.Tryz.func336 (by kernel_rfl) (by kernel_rfl) (by kernel_rfl) (by kernel_rfl) h) (orK_ok (fun _ _ _ _ h => kHandle_ok Go.Proofs.Tryz.func390 (by kernel_rfl) (by kernel_rfl) (by kernel_rfl) (by kernel_rfl) Tryz.cmpsOk h) (orK_ok (fun _ _ _ _ h => kTypeOf_ok Go.Proofs.Tryz.func196 (by kernel_rfl) (by kernel_rfl) (by kernel_rfl) (by kernel_rfl) Tryz.typeOf h) (fun _ _ _ _ h => by cases h)))))))
end Go.Ab
