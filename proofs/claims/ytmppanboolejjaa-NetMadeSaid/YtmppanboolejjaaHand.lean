/- slices.Delete and slices.Insert of this seat, walked; the environment for closed laws. Printed by mkhand.py. -/
import Derived.Test.YtmppanboolejjaaAb
import Derived.Test.YtmppanboolejjaaAbExt
import Derived.Lib.AppendZeros
import Derived.Lib.AppendZerosOnto
import Derived.Lib.Overlaps
import Derived.Laws.Externs
import Derived.Laws.IdiomCopy
import Derived.Shelf.Spec.SlicesInsert
import Derived.WalkKit
import Derived.LaidEql
import Derived.Stop.Asserts
import Derived.RowKitTokens
set_option maxRecDepth 100000
set_option maxHeartbeats 4000000
namespace Go.Ab
open Go Go.Proofs

end Go.Ab
namespace Go.Hand
open Go Go.Proofs Go.RowKit Go.Lib
theorem del21 : Go.Ab.DelCalls Go.Proofs.Try.prog 21 4 (.agg #[.int .i64 0, .int .i64 0, .string ⟨#[]⟩, .bool false] : Value).cells := by
  intro b n c i j news zs w tt size hi hj hc hsz hnl hnews hn1 hfz hsh hzs hz1 hzl
  have mixed : Go.Proofs.Try.prog.follows .mixedOrders = true := Go.Ab.Try.mixed
  obtain ⟨i0, hi0, hz0⟩ : ∃ i0, Go.Proofs.Try.prog.info? 28 = some i0 ∧ i0.size = 4 := by
    obtain ⟨i0, _, h1, h2, _⟩ := (Go.Ab.tabB_ok Go.Ab.Try.tabOk).get (t := 28) rfl
    exact ⟨i0, h1, h2⟩
  have hz := Go.Proofs.Try.zeroValue28
  have hne : ¬ ((i : Int) = (j : Int)) := by omega
  have hjn : (j : Int) ≤ (n : Int) := by omega
  have hic : i ≤ c := by omega
  have hjc : j ≤ c := by omega
  obtain ⟨A, hA, hsrc⟩ : ∃ A : Addr, (if c = j then some (⟨b, 0, none⟩ : Addr) else some ⟨b, j * 4, none⟩) = some A ∧ (∀ t u, news[t]? = some u → w.drew.cell? (A.add t) = some u) := by
    by_cases h : c = j
    · refine ⟨⟨b, 0, none⟩, by simp [h], fun t u hu => ?_⟩
      have h0 : news.length = 0 := by rw [hnl]; have : n - j = 0 := by omega
                                      rw [this]
      rw [List.length_eq_zero_iff.1 h0] at hu
      simp at hu
    · refine ⟨⟨b, j * 4, none⟩, by simp [h], fun t u hu => ?_⟩
      rw [Addr.add_lit]
      exact hnews t u hu
  have s3 : ∀ t, t < news.length → (w.drew.cell? ⟨b, 0 + i * 4 + t, none⟩).isSome = true ∧ w.drew.frozen? ⟨b, 0 + i * 4 + t, none⟩ = false := by
    intro t ht
    rw [hnl] at ht
    rw [Nat.zero_add]
    exact ⟨Go.Ab.shape_cell (w := w) hsh (by omega), hfz _ (by omega)⟩
  have hcl : ∀ ty, (Builtin.clear_ #[24] ty #[.slice (some ⟨b, (i + (n - j)) * 4, none⟩) (n - (i + (n - j))) (c - (i + (n - j)))]).run Go.Proofs.Try.prog (w.drew.setCells b (i * 4) news) = .ok (.tuple #[]) ((w.drew.setCells b (i * 4) news).setCells b ((i + (n - j)) * 4) zs) := fun ty =>
    Go.Ab.run_clear_cells Go.Proofs.Try.underlying24 hz (by omega) (by rw [show n - (i + (n - j)) = j - i by omega]; exact hzs)
      (fun t ht => by exact Go.Ab.shape_cell (by rw [Go.Ab.setCells_shape]; exact hsh) (by omega)) (fun t ht => by rw [World.frozen?_setCells]; exact hfz _ (by omega)) hz1
  go_enter Go.Proofs.Try.func21, Go.Proofs.Try.ntmps21
  go_wp2_with fail
  go_region_law_o (refine step_append_room rfl (.tmp 22) (.tmp 25) 24 rfl 28 i0 4 Go.Proofs.Try.underlying24 hi0 hz0 b 0 i c (by simp [Act.eval, Act.put]) A (n - j) (c - j) news (by simp [Act.eval, Act.put]) hnl hsrc hn1 (by omega) s3 ?_; rw [Nat.zero_add])
  go_wp2
  go_ret
  exact ⟨by rw [show n - (j - i) = i + (n - j) by omega]; rfl, rfl⟩
end Go.Hand
namespace Go.Ab
open Go Go.Proofs
theorem delete21 (xs : List AV) (i j : Nat) (hij : i < j) (hj : j ≤ xs.length) : SoundCall Go.Proofs.Try.prog Try.phi 21 [.sref (.inc 0) 0 xs.length, .int .i64 i, .int .i64 j] [.row 4 xs true true] ⟨.sref (.inc 0) 0 (xs.length - (j - i)), [.row 4 (rowDel (.agg [.int .i64 0, .int .i64 0, .str [], .bool false]) xs i j) true true], []⟩ :=
  delete_sound (z := .agg [.int .i64 0, .int .i64 0, .str [], .bool false]) Go.Hand.del21 Go.Proofs.Try.func21 (by kernel_rfl) (by kernel_rfl) (R.cells (R.value (v := .agg #[.int .i64 0, .int .i64 0, .string ⟨#[]⟩, .bool false]) rfl) (by simp)) rfl rfl hij hj
def Try.meths : List (Nat × String × Nat × Bool) := []
theorem Try.methsOk : MethTab Go.Proofs.Try.prog Try.meths := trivial
def Try.tas : List (Nat × Nat × Bool) := []
theorem Try.tasOk : taB Go.Proofs.Try.prog Try.tas = true := by kernel_rfl
noncomputable def Try.E : Env := { cfg := Try.cfg, fn := look1 Try.fns, meth := lookM Try.meths, ta := look2o Try.tas, known := orK (kDel 21 4 (.agg [.int .i64 0, .int .i64 0, .str [], .bool false])) (fun _ _ _ => none) }
theorem Try.envOk : EnvOk Go.Proofs.Try.prog Try.phi Try.X Try.E := Go.Ab.envOk Try.ok rfl rfl rfl Try.fnsOk (fun _ _ _ _ h => MethTab.get Try.methsOk h) (fun _ _ _ h => taB_ok Try.tasOk h) (orK_ok (fun _ _ _ _ h => kDel_ok delete21 h) (fun _ _ _ _ h => by cases h))
end Go.Ab
