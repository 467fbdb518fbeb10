/- Law 23: NetMade's functions, as plain Lean. -/
import Derived.Test.YtmppanboolejjaaNet
namespace Go.Ab.Try
open Go
set_option maxRecDepth 100000
set_option maxHeartbeats 4000000
theorem c13 (b : Bool) : X.call 13 [.bool b] [] ⟨.int .i64 (if b then 1 else 0), [], []⟩ := by
  refine spec_of ok Go.Proofs.Try.func13 ok13 ?_
  refine (Sat.pNode (b) (by kernel_rfl) (fun _h2 => (Sat.pRet ({ v := AV.int IntKind.i64 (1 : Int), back := [], out := [] }) (by kernel_rfl) (by simp_all))) (fun _h2 =>
   (Sat.pRet ({ v := AV.int IntKind.i64 (0 : Int), back := [], out := [] }) (by kernel_rfl) (by simp_all))))
def differ : List UInt8 → List UInt8 → Nat
  | a :: x, b :: y => (if a = b then 0 else 1) + differ x y
  | _, _ => 0
theorem differ_le : ∀ a b : List UInt8, differ a b ≤ a.length
  | [], b => by simp [differ]
  | a :: x, [] => by simp [differ]
  | a :: x, b :: y => by have := differ_le x y; simp only [differ, List.length_cons]; split <;> omega
theorem differ_take : ∀ {a b : List UInt8} {k : Nat} {x y : UInt8}, a[k]? = some x → b[k]? = some y → differ (a.take (k + 1)) (b.take (k + 1)) = differ (a.take k) (b.take k) + (if x = y then 0 else 1)
  | [], b, k, x, y, h, _ => by simp at h
  | a :: p, [], k, x, y, _, h => by simp at h
  | a :: p, b :: q, 0, x, y, h, h' => by simp at h h'; subst h; subst h'; simp [differ]
  | a :: p, b :: q, k + 1, x, y, h, h' => by simp at h h'; simp [differ, differ_take h h']; omega
def apart (a b : List UInt8) : Int := if a.length ≠ b.length then 9 else differ a b
theorem c12 (a b : List UInt8) (ha : a.length ≤ 100000) : X.call 12 [.str a, .str b] [] ⟨.int .i64 (apart a b), [], []⟩ := by
  refine spec_of ok Go.Proofs.Try.func12 ok12 ?_
  refine (Sat.pIfEN ((↑a.length : Int) = (↑b.length : Int)) (a.length = b.length) (by kernel_rfl) (by simp only [Int.natCast_inj]) (fun _h4 =>
   (Sat.pRet ({ v := AV.int IntKind.i64 (9 : Int), back := [], out := [] }) (by kernel_rfl) (by (simp [apart, *]; done)))) (fun _h4 => ?_))
  refine Sat.pLoop 5 ({ T := [((0 : Nat), AV.str a), ((1 : Nat), AV.str b), ((5 : Nat), AV.int IntKind.i64 (0 : Int)), ((6 : Nat), AV.int IntKind.i64 (0 : Int))], H := [] }) (by kernel_rfl)
   (fun (k : Nat) => ⟨[(0, .str a), (1, .str b), (5, .int .i64 (differ (a.take k) (b.take k))), (6, .int .i64 k)], []⟩) (fun k => k ≤ a.length) (fun k => a.length - k) 0 rfl ?_ ?_
  · omega
  · intro k hk again
    have hd := differ_le (a.take k) (b.take k)
    simp only [List.length_take] at hd
    refine (Sat.pIfE ((↑k : Int) < (↑a.length : Int)) (k < a.length) (by kernel_rfl) (by simp only [Int.ofNat_lt]) (fun _h10 => (Sat.pNodeT true (by kernel_rfl) rfl
     (Sat.pByteM (a) (k) (by kernel_rfl) (by assumption) (fun _x11 _hx12 => (Sat.pNodeT true (by kernel_rfl) rfl (Sat.pByteM (b) (k) (by kernel_rfl) (by omega) (fun _x13 _hx14 =>
     (have _u15 : _x11.toNat < (256 : Nat) := UInt8.toNat_lt _; (have _u16 : _x13.toNat < (256 : Nat) := UInt8.toNat_lt _;
     (Sat.pIfEN ((↑_x11.toNat : Int) = (↑_x13.toNat : Int)) (_x11 = _x13) (by kernel_rfl) (by simp only [Int.natCast_inj, UInt8.toNat_inj]) (fun _h17 =>
     (have _w18 : IntKind.i64.wrap ((↑(differ (List.take k a) (List.take k b)) : Int) + (1 : Int)) = (↑(differ (List.take k a) (List.take k b)) : Int) + (1 : Int) := wI64 (by omega) (by omega);
     (have _w19 : IntKind.i64.wrap ((↑k : Int) + (1 : Int)) = (↑k : Int) + (1 : Int) := wI64 (by omega) (by omega);
     (Sat.pAgainE ({ T := [((0 : Nat), AV.str a), ((1 : Nat), AV.str b), ((5 : Nat), AV.int IntKind.i64 (IntKind.i64.wrap ((↑(differ (List.take k a) (List.take k b)) : Int) + (1 : Int)))), ((6 : Nat), AV.int IntKind.i64 (IntKind.i64.wrap ((↑k : Int) + (1 : Int))))], H := [] }) (by kernel_rfl) (by (clear again; (simp_all [differ_take]; done))) (again (k + (1 : Nat)) (by omega) (by omega))))))
     (fun _h17 => (have _w20 : IntKind.i64.wrap ((↑k : Int) + (1 : Int)) = (↑k : Int) + (1 : Int) := wI64 (by omega) (by omega);
     (Sat.pAgainE ({ T := [((0 : Nat), AV.str a), ((1 : Nat), AV.str b), ((5 : Nat), AV.int IntKind.i64 (↑(differ (List.take k a) (List.take k b)) : Int)), ((6 : Nat), AV.int IntKind.i64 (IntKind.i64.wrap ((↑k : Int) + (1 : Int))))], H := [] }) (by kernel_rfl) (by (clear again; (simp_all [differ_take]; done))) (again (k + (1 : Nat)) (by omega) (by omega)))))))))))))))
     (fun _h10 =>
     (Sat.pRet ({ v := AV.int IntKind.i64 (↑(differ (List.take k a) (List.take k b)) : Int), back := [], out := [] }) (by kernel_rfl) (by (clear again; (simp_all [apart, List.take_of_length_le]; done))))))
theorem c6 : X.call 6 [] [] ⟨.bool true, [], []⟩ := evT_ok Try.envOk (by kernel_rfl)
def near (sent : List Gram) (g : Gram) : Bool := sent.any fun s => decide (apart g.B s.B = if g.Turned then 1 else 0)
theorem near_succ {sent : List Gram} {g x : Gram} {m : Nat} (h : sent[m]? = some x) : near (sent.take (m + 1)) g = (near (sent.take m) g || decide (apart g.B x.B = if g.Turned then 1 else 0)) := by
  rw [take_succ h]; simp [near]
theorem near_mono {sent : List Gram} {g : Gram} {m : Nat} (h : near (sent.take m) g = true) : near (sent.take (m + 1)) g = true := by
  simp only [near, List.any_eq_true] at h ⊢
  obtain ⟨x, hx, h⟩ := h
  exact ⟨x, (List.take_subset_take_left sent (Nat.le_succ m)) hx, h⟩
abbrev st7 (l : List Q4) (fly sent : List Gram) (k : Nat) : St := ⟨[(0, .tree (l.map encQ4)), (3, .tree (fly.map encGram)), (4, .sref (.head 4 0) 0 sent.length), (5, .int .i64 k)], [(.head 4 0, .row 4 (sent.map encGram) true true)]⟩
theorem inner29 (l : List Q4) (k : Nat) (fly sent : List Gram) (hk : k < l.length) (h60 : ¬ 60 < (l.length : Int)) (hf : fly.length ≤ 20) (hs : sent.length ≤ k + 1)
    (hlen : ∀ g ∈ fly, g.B.length ≤ 100000) (hnear : ∀ g ∈ fly, near sent g = true)
    (again : Sat X 3 (loopD X.cfg 3 Go.Proofs.Try.f3 0 7 (st7 l fly sent (k + 1))) (· = ⟨.bool true, [], []⟩)) :
    Sat X 3 (loopD X.cfg 3 Go.Proofs.Try.f3 0 29 ⟨[(0, .tree (l.map encQ4)), (3, .tree (fly.map encGram)), (4, .sref (.head 4 0) 0 sent.length), (5, .int .i64 k), (13, .int .i64 0)], [(.head 4 0, .row 4 (sent.map encGram) true true)]⟩) (· = ⟨.bool true, [], []⟩) := by
  refine Sat.pLoop 29 ({ T := [((0 : Nat), AV.tree (List.map encQ4 l)), ((3 : Nat), AV.tree (List.map encGram fly)), ((4 : Nat), AV.sref (Site.head (4 : Nat) (0 : Nat)) (0 : Nat) sent.length), ((5 : Nat), AV.int IntKind.i64 (↑k : Int)), ((13 : Nat), AV.int IntKind.i64 (0 : Int))], H := [(Site.head (4 : Nat) (0 : Nat), Blk.row (4 : Nat) (List.map encGram sent) Bool.true Bool.true)] }) (by kernel_rfl)
   (fun (i : Nat) => ⟨[(0, .tree (l.map encQ4)), (3, .tree (fly.map encGram)), (4, .sref (.head 4 0) 0 sent.length), (5, .int .i64 k), (13, .int .i64 i)], [(.head 4 0, .row 4 (sent.map encGram) true true)]⟩)
   (fun i => i ≤ fly.length) (fun i => fly.length - i) 0 rfl ?_ ?_
  · simp
  · intro i hi again2
    refine (Sat.pIfE ((↑i : Int) < (↑(List.map encGram fly).length : Int)) (i < fly.length) (by kernel_rfl) (by simp only [List.length_map, Int.ofNat_lt]) (fun _h15 => ?_) (fun _h15 =>
     (have _w16 : IntKind.i64.wrap ((↑k : Int) + (1 : Int)) = (↑k : Int) + (1 : Int) := wI64 (by omega) (by omega);
     (Sat.pJoinE (L := loopD X.cfg (3 : FuncId) Proofs.Try.f3 (0 : Nat) (7 : Nat)) ({ T := [((0 : Nat), AV.tree (List.map encQ4 l)), ((3 : Nat), AV.tree (List.map encGram fly)), ((4 : Nat), AV.sref (Site.head (4 : Nat) (0 : Nat)) (0 : Nat) sent.length), ((5 : Nat), AV.int IntKind.i64 (IntKind.i64.wrap ((↑k : Int) + (1 : Int))))], H := [(Site.head (4 : Nat) (0 : Nat), Blk.row (4 : Nat) (List.map encGram sent) Bool.true Bool.true)] }) (by kernel_rfl) (by simp [_w16]) rfl (again)))))
    obtain ⟨g, hg⟩ : ∃ g, fly[i]? = some g := ⟨fly[i], by simp⟩
    have hgl := hlen g (List.mem_of_getElem? hg)
    have hgn := hnear g (List.mem_of_getElem? hg)
    refine Sat.pLoop 33 ({ T := [((0 : Nat), AV.tree (List.map encQ4 l)), ((3 : Nat), AV.tree (List.map encGram fly)), ((4 : Nat), AV.sref (Site.head (4 : Nat) (0 : Nat)) (0 : Nat) sent.length), ((5 : Nat), AV.int IntKind.i64 (↑k : Int)), ((13 : Nat), AV.int IntKind.i64 (↑i : Int)), ((14 : Nat), AV.bool Bool.false), ((15 : Nat), AV.int IntKind.i64 (0 : Int))], H := [(Site.head (4 : Nat) (0 : Nat), Blk.row (4 : Nat) (List.map encGram sent) Bool.true Bool.true)] }) (by kernel_rfl)
     (fun (m : Nat) => ⟨[(0, .tree (l.map encQ4)), (3, .tree (fly.map encGram)), (4, .sref (.head 4 0) 0 sent.length), (5, .int .i64 k), (13, .int .i64 i), (14, .bool (near (sent.take m) g)), (15, .int .i64 m)], [(.head 4 0, .row 4 (sent.map encGram) true true)]⟩)
     (fun m => m ≤ sent.length) (fun m => sent.length - m) 0 rfl ?_ ?_
    · simp
    · intro m hm again3
      refine (Sat.pIfE ((↑m : Int) < (↑sent.length : Int)) (m < sent.length) (by kernel_rfl) (by simp only [Int.ofNat_lt]) (fun _h23 => (Sat.pNode (near (List.take m sent) g) (by kernel_rfl) (fun _h24 =>
       (Sat.pNodeT (near (List.take m sent) g) (by kernel_rfl) _h24 (Sat.pNodeT (near (List.take m sent) g) (by kernel_rfl) _h24 (Sat.pNodeT (near (List.take m sent) g) (by kernel_rfl) _h24
       (Sat.pNodeT (near (List.take m sent) g) (by kernel_rfl) _h24 (Sat.pNodeT (near (List.take m sent) g) (by kernel_rfl) _h24 (Sat.pNodeT (near (List.take m sent) g) (by kernel_rfl) _h24
       (Sat.pNodeT (near (List.take m sent) g) (by kernel_rfl) _h24 (Sat.pNodeT (near (List.take m sent) g) (by kernel_rfl) _h24 (Sat.pNodeT (near (List.take m sent) g) (by kernel_rfl) _h24
       (Sat.pNodeT (near (List.take m sent) g) (by kernel_rfl) _h24 (Sat.pNodeT (near (List.take m sent) g) (by kernel_rfl) _h24 (Sat.pNodeT (near (List.take m sent) g) (by kernel_rfl) _h24
       (Sat.pNodeT (near (List.take m sent) g) (by kernel_rfl) _h24 (Sat.pNodeT (near (List.take m sent) g) (by kernel_rfl) _h24 (Sat.pNodeT (near (List.take m sent) g) (by kernel_rfl) _h24
       (Sat.pNodeT (near (List.take m sent) g) (by kernel_rfl) _h24 (Sat.pNodeT (near (List.take m sent) g) (by kernel_rfl) _h24 (Sat.pNodeT (near (List.take m sent) g) (by kernel_rfl) _h24
       (have _w43 : IntKind.i64.wrap ((↑m : Int) + (1 : Int)) = (↑m : Int) + (1 : Int) := wI64 (by omega) (by omega);
       (Sat.pAgainE ({ T := [((0 : Nat), AV.tree (List.map encQ4 l)), ((3 : Nat), AV.tree (List.map encGram fly)), ((4 : Nat), AV.sref (Site.head (4 : Nat) (0 : Nat)) (0 : Nat) sent.length), ((5 : Nat), AV.int IntKind.i64 (↑k : Int)), ((13 : Nat), AV.int IntKind.i64 (↑i : Int)), ((14 : Nat), AV.bool Bool.true), ((15 : Nat), AV.int IntKind.i64 (IntKind.i64.wrap ((↑m : Int) + (1 : Int))))], H := [(Site.head (4 : Nat) (0 : Nat), Blk.row (4 : Nat) (List.map encGram sent) Bool.true Bool.true)] }) (by kernel_rfl) (by (clear again again2 again3; grind [near_succ, near_mono])) (again3 (m + (1 : Nat)) (by omega) (by omega)))))))))))))))))))))))
       (fun _h24 => (Sat.pNodeF (near (List.take m sent) g) (by kernel_rfl) _h24 (Sat.pNodeF (near (List.take m sent) g) (by kernel_rfl) _h24 (Sat.pNodeT true (by kernel_rfl) rfl
       (Sat.pElemH (encGram) (fly) (List.map encGram fly) (i) (i) (g) (by kernel_rfl) rfl rfl hg (Sat.pNodeF (near (List.take m sent) g) (by kernel_rfl) _h24
       (Sat.pNodeF (near (List.take m sent) g) (by kernel_rfl) _h24 (Sat.pNodeF (near (List.take m sent) g) (by kernel_rfl) _h24 (Sat.pNodeF (near (List.take m sent) g) (by kernel_rfl) _h24
       (Sat.pNodeF (near (List.take m sent) g) (by kernel_rfl) _h24
       (Sat.pIfE ((0 : Int) ≤ (↑m : Int) ∧ (↑m : Int) < (↑sent.length : Int)) ((0 : Int) ≤ (↑m : Int) ∧ m < sent.length) (by kernel_rfl) (by simp only [Int.ofNat_lt]) (fun _h51 =>
       (Sat.pNodeF (near (List.take m sent) g) (by kernel_rfl) _h24 (Sat.pNodeF (near (List.take m sent) g) (by kernel_rfl) _h24
       (Sat.pElemM (encGram) (sent) (List.map encGram sent) (m) (by kernel_rfl) rfl (by assumption) (fun _x54 _hx55 => (Sat.pNodeF (near (List.take m sent) g) (by kernel_rfl) _h24
       (Sat.pNodeF (near (List.take m sent) g) (by kernel_rfl) _h24 (Sat.pNodeF (near (List.take m sent) g) (by kernel_rfl) _h24 (Sat.pNodeT true (by kernel_rfl) rfl
       (Sat.pElemH (encGram) (fly) (List.map encGram fly) (i) (i) (g) (by kernel_rfl) rfl rfl hg (Sat.pNodeF (near (List.take m sent) g) (by kernel_rfl) _h24
       (Sat.pNodeF (near (List.take m sent) g) (by kernel_rfl) _h24 (Sat.pNodeF (near (List.take m sent) g) (by kernel_rfl) _h24
       (Sat.pCallE 12 ([AV.str g.B, AV.str _x54.B]) ([]) (by kernel_rfl) rfl rfl (@Go.Ab.Try.c12 (g.B) (_x54.B) (by assumption)) (Sat.pNodeF (near (List.take m sent) g) (by kernel_rfl) _h24
       (Sat.pCallE 13 ([AV.bool g.Turned]) ([]) (by kernel_rfl) rfl rfl (@Go.Ab.Try.c13 (g.Turned)) (Sat.pNodeF (near (List.take m sent) g) (by kernel_rfl) _h24
       (Sat.pNodeF (near (List.take m sent) g) (by kernel_rfl) _h24 (have _w65 : IntKind.i64.wrap ((↑m : Int) + (1 : Int)) = (↑m : Int) + (1 : Int) := wI64 (by omega) (by omega);
       (Sat.pAgainE ({ T := [((0 : Nat), AV.tree (List.map encQ4 l)), ((3 : Nat), AV.tree (List.map encGram fly)), ((4 : Nat), AV.sref (Site.head (4 : Nat) (0 : Nat)) (0 : Nat) sent.length), ((5 : Nat), AV.int IntKind.i64 (↑k : Int)), ((13 : Nat), AV.int IntKind.i64 (↑i : Int)), ((14 : Nat), AV.bool (decide (apart g.B _x54.B = if g.Turned = Bool.true then (1 : Int) else (0 : Int)))), ((15 : Nat), AV.int IntKind.i64 (IntKind.i64.wrap ((↑m : Int) + (1 : Int))))], H := [(Site.head (4 : Nat) (0 : Nat), Blk.row (4 : Nat) (List.map encGram sent) Bool.true Bool.true)] }) (by kernel_rfl) (by (clear again again2 again3; grind [near_succ, near_mono])) (again3 (m + (1 : Nat)) (by omega) (by omega))))))))))))))))))))))
       (fun _h51 => False.elim (by omega))))))))))))))) (fun _h23 => (Sat.pNodeN (near (List.take m sent) g) (by kernel_rfl) (fun _h66 =>
       (Sat.pRet ({ v := AV.bool Bool.false, back := [], out := [] }) (by kernel_rfl) (by (clear again again2 again3; grind [near_succ, near_mono])))) (fun _h66 =>
       (have _w67 : IntKind.i64.wrap ((↑i : Int) + (1 : Int)) = (↑i : Int) + (1 : Int) := wI64 (by omega) (by omega);
       (Sat.pAgainE ({ T := [((0 : Nat), AV.tree (List.map encQ4 l)), ((3 : Nat), AV.tree (List.map encGram fly)), ((4 : Nat), AV.sref (Site.head (4 : Nat) (0 : Nat)) (0 : Nat) sent.length), ((5 : Nat), AV.int IntKind.i64 (↑k : Int)), ((13 : Nat), AV.int IntKind.i64 (IntKind.i64.wrap ((↑i : Int) + (1 : Int))))], H := [(Site.head (4 : Nat) (0 : Nat), Blk.row (4 : Nat) (List.map encGram sent) Bool.true Bool.true)] }) (by kernel_rfl) (by simp [_w67]) (again2 (i + (1 : Nat)) (by omega) (by omega))))))))
theorem comes_sub {fly : List Gram} {n : Int} {g : Gram} (h : g ∈ (netComes fly n).1) : g ∈ fly := by
  unfold netComes at h
  split at h
  · exact List.mem_of_mem_eraseIdx h
  · exact h
theorem comes_len (fly : List Gram) (n : Int) : (netComes fly n).1.length ≤ fly.length := by
  unfold netComes
  split
  · simp only [List.length_eraseIdx]; split <;> omega
  · simp
theorem twice_sub {fly : List Gram} {n : Int} {g : Gram} (h : g ∈ netTwice fly n) : g ∈ fly := by
  unfold netTwice at h
  split at h
  · unfold netSend at h
    split at h
    · exact h
    · simp only [List.mem_append, List.mem_singleton] at h
      rcases h with h | rfl
      · exact h
      · simp
  · exact h
theorem send_len (fly : List Gram) (g : Gram) (h : fly.length ≤ 20) : (netSend fly g).length ≤ 20 := by
  unfold netSend; split
  · exact h
  · simp; omega
theorem twice_len (fly : List Gram) (n : Int) (h : fly.length ≤ 20) : (netTwice fly n).length ≤ 20 := by
  unfold netTwice; split
  · exact send_len _ _ h
  · exact h
theorem turned_len (fly : List Gram) (n to : Int) : (netTurned fly n to).1.length = fly.length := by
  unfold netTurned
  split
  · dsimp only; split
    · rfl
    · split <;> simp
  · rfl
theorem differ_self : ∀ a : List UInt8, differ a a = 0
  | [] => rfl
  | a :: r => by simp [differ, differ_self r]
theorem differ_zero : ∀ {a b : List UInt8}, a.length = b.length → differ a b = 0 → a = b
  | [], [], _, _ => rfl
  | a :: x, [], h, _ => by simp at h
  | [], b :: y, h, _ => by simp at h
  | a :: x, b :: y, h, h' => by
    simp only [differ] at h'
    simp at h
    by_cases e : a = b
    · subst e; rw [differ_zero h (by omega)]
    · rw [if_neg e] at h'; omega
theorem differ_set : ∀ (b : List UInt8) (j : Nat) (y : UInt8), j < b.length → differ (b.set j y) b = if y = b.getD j 0 then 0 else 1
  | [], j, y, h => by simp at h
  | a :: r, 0, y, h => by simp [differ, differ_self]
  | a :: r, j + 1, y, h => by simp [differ, differ_set r j y (by simpa using h)]
theorem apart_self (a : List UInt8) : apart a a = 0 := by simp [apart, differ_self]
theorem apart_zero {a b : List UInt8} (h : apart a b = 0) : a = b := by
  unfold apart at h
  split at h
  · omega
  · exact differ_zero (by omega) (by omega)
theorem apart_turn (b : List UInt8) (to : Int) (hb : b ≠ []) (ht : ¬ to < 0) (h : ¬ to % 256 = 0) : apart (turnB b to) b = 1 := by
  have hl : 0 < b.length := List.length_pos_iff.2 hb
  have h1 := Int.emod_nonneg (to / 256) (b := (b.length : Int)) (by omega)
  have h2 := Int.emod_lt_of_pos (to / 256) (b := (b.length : Int)) (by omega)
  unfold apart turnB
  rw [if_neg (by simp), differ_set _ _ _ (by omega), if_neg]
  · rfl
  · intro e
    have e2 := congrArg (fun x => b.getD ((to / 256) % b.length).toNat 0 ^^^ x) e
    simp only [← UInt8.xor_assoc, UInt8.xor_self, UInt8.zero_xor] at e2
    have e3 := congrArg UInt8.toNat e2
    simp at e3
    omega
theorem near_len {sent : List Gram} {g : Gram} (hs : ∀ s ∈ sent, s.B.length = 3) (h : near sent g = true) : g.B.length = 3 := by
  simp only [near, List.any_eq_true, decide_eq_true_eq] at h
  obtain ⟨s, h1, h2⟩ := h
  unfold apart at h2
  split at h2
  · split at h2 <;> omega
  · rw [← hs s h1]; omega
theorem turned_near {sent fly : List Gram} {n to : Int} (h : ∀ g ∈ fly, near sent g = true) : ∀ g ∈ (netTurned fly n to).1, near sent g = true := by
  intro g hg
  unfold netTurned at hg
  split at hg
  · rename_i hn
    dsimp only at hg
    split at hg
    · exact h g hg
    · rename_i ht
      split at hg
      · exact h g hg
      · rename_i hc
        rcases List.mem_or_eq_of_mem_set hg with hg | rfl
        · exact h g hg
        · have := h _ (List.getElem_mem (l := fly) (n := n.toNat) (by omega))
          simp only [near, List.any_eq_true, decide_eq_true_eq, ht, if_neg, Bool.false_eq_true] at this ⊢
          obtain ⟨s, hs, hh⟩ := this
          refine ⟨s, hs, ?_⟩
          rw [← apart_zero hh]
          simp only [not_or] at hc
          simpa using apart_turn _ _ hc.1 hc.2.1 hc.2.2
  · exact h g hg
theorem near_app {sent : List Gram} {g s : Gram} (h : near sent g = true) : near (sent ++ [s]) g = true := by
  unfold near at h ⊢
  rw [List.any_append, h, Bool.true_or]
theorem send_near {sent fly : List Gram} {g : Gram} (h : ∀ g ∈ fly, near sent g = true) (hg : g.Turned = false) : ∀ x ∈ netSend fly g, near (sent ++ [g]) x = true := by
  intro x hx
  unfold netSend at hx
  split at hx
  · exact near_app (h x hx)
  · simp only [List.mem_append, List.mem_singleton] at hx
    rcases hx with hx | rfl
    · exact near_app (h x hx)
    · simp [near, hg, apart_self]
theorem c3 (l : List Q4) : X.call 3 [.tree (l.map encQ4)] [] ⟨.bool true, [], []⟩ := by
  refine spec_of ok Go.Proofs.Try.func3 ok3 ?_
  refine (Sat.pCallE 6 ([]) ([]) (by kernel_rfl) rfl rfl (@Go.Ab.Try.c6) (Sat.pNodeF false (by kernel_rfl) rfl
   (Sat.pIfE ((60 : Int) < (↑(List.map encQ4 l).length : Int)) ((60 : Int) < (↑l.length : Int)) (by kernel_rfl) (by simp only [List.length_map]) (fun _h2 =>
   (Sat.pRet ({ v := AV.bool Bool.true, back := [], out := [] }) (by kernel_rfl) rfl)) (fun _h2 => ?_))))
  refine Sat.pLoop 7 ({ T := [((0 : Nat), AV.tree (List.map encQ4 l)), ((3 : Nat), AV.tree []), ((4 : Nat), AV.sref (Site.head (4 : Nat) (0 : Nat)) (0 : Nat) (0 : Nat)), ((5 : Nat), AV.int IntKind.i64 (0 : Int))], H := [(Site.head (4 : Nat) (0 : Nat), Blk.row (4 : Nat) [] Bool.true Bool.true)] }) (by kernel_rfl)
   (fun (p : Nat × List Gram × List Gram) => st7 l p.2.1 p.2.2 p.1) (fun p => p.1 ≤ l.length ∧ p.2.1.length ≤ 20 ∧ p.2.2.length ≤ p.1 ∧ (∀ s ∈ p.2.2, s.B.length = 3) ∧ (∀ g ∈ p.2.1, near p.2.2 g = true))
   (fun p => l.length - p.1) (0, [], []) rfl ?_ ?_
  · simp
  · rintro ⟨k, fly, sent⟩ hI again
    obtain ⟨hk, hf, hs, h3, hn⟩ := hI
    simp only at hk hf hs h3 hn
    have again_tail : ∀ fly' sent' : List Gram, k < l.length → fly'.length ≤ 20 → sent'.length ≤ k + 1 → (∀ s ∈ sent', s.B.length = 3) → (∀ g ∈ fly', near sent' g = true) →
        Sat X 3 (loopD X.cfg 3 Go.Proofs.Try.f3 0 29 ⟨[(0, .tree (l.map encQ4)), (3, .tree (fly'.map encGram)), (4, .sref (.head 4 0) 0 sent'.length), (5, .int .i64 k), (13, .int .i64 0)], [(.head 4 0, .row 4 (sent'.map encGram) true true)]⟩) (· = ⟨.bool true, [], []⟩) := by
      intro fly' sent' h1 h2 h4 h5 h6
      refine inner29 l k fly' sent' h1 (by assumption) h2 h4 (fun g hg => by have := near_len h5 (h6 g hg); omega) h6 ?_
      exact Sat.pAgain _ (by kernel_rfl) (again (k + 1, fly', sent') ⟨Nat.succ_le_of_lt h1, h2, h4, h5, h6⟩ (by simp; omega))
    refine (Sat.pIfE ((↑k : Int) < (↑(List.map encQ4 l).length : Int)) (k < l.length) (by kernel_rfl) (by simp only [List.length_map, Int.ofNat_lt]) (fun _h14 => (Sat.pNodeT true (by kernel_rfl) rfl
     (Sat.pElemM (encQ4) (l) (List.map encQ4 l) ((k, fly, sent).fst) (by kernel_rfl) rfl (by assumption) (fun _x15 _hx16 => (Sat.pFin ((1 : Int)) 4 (1) (by kernel_rfl) rfl (by decide)
     (Sat.pNodeT true (by kernel_rfl) rfl (Sat.pNodeT true (by kernel_rfl) rfl (Sat.pElemH (encQ4) (l) (List.map encQ4 l) ((k, fly, sent).fst) ((k, fly, sent).fst) (_x15) (by kernel_rfl) rfl rfl _hx16
     (Sat.pFin ((0 : Int)) 4 (0) (by kernel_rfl) rfl (by decide) (Sat.pNodeT true (by kernel_rfl) rfl (have _u17 : _x15.a.toNat < (256 : Nat) := UInt8.toNat_lt _;
     (have _w18 : (↑_x15.a.toNat : Int).tmod (6 : Int) = (↑_x15.a.toNat : Int) % (6 : Int) := Int.tmod_eq_emod_of_nonneg (by omega);
     (Sat.pIfE ((↑_x15.a.toNat : Int).tmod (6 : Int) = (0 : Int)) ((↑_x15.a.toNat : Int) % (6 : Int) = (0 : Int)) (by kernel_rfl) (by simp only [_w18]) (fun _h19 =>
     (Sat.pIfET ((↑_x15.a.toNat : Int).tmod (6 : Int) = (0 : Int)) ((↑_x15.a.toNat : Int) % (6 : Int) = (0 : Int)) (by kernel_rfl) (by simp only [_w18]) _h19 (Sat.pNodeT true (by kernel_rfl) rfl
     (Sat.pNodeT true (by kernel_rfl) rfl (have _w20 : (↑k : Int).tmod (26 : Int) = (↑k : Int) % (26 : Int) := Int.tmod_eq_emod_of_nonneg (by omega);
     (have _w21 : IntKind.u8.wrap ((↑k : Int) % (26 : Int)) = (↑k : Int) % (26 : Int) := wU8 (by omega) (by omega);
     (have _w22 : IntKind.u8.wrap ((97 : Int) + (↑k : Int) % (26 : Int)) = (97 : Int) + (↑k : Int) % (26 : Int) := wU8 (by omega) (by omega);
     (have _w23 : (↑k : Int).tdiv (26 : Int) = (↑k : Int) / (26 : Int) := Int.tdiv_eq_ediv_of_nonneg (by omega);
     (have _w24 : IntKind.i64.wrap ((↑k : Int) / (26 : Int)) = (↑k : Int) / (26 : Int) := wI64 (by omega) (by omega);
     (have _w25 : IntKind.u8.wrap ((↑k : Int) / (26 : Int)) = (↑k : Int) / (26 : Int) := wU8 (by omega) (by omega);
     (have _w26 : IntKind.u8.wrap ((97 : Int) + (↑k : Int) / (26 : Int)) = (97 : Int) + (↑k : Int) / (26 : Int) := wU8 (by omega) (by omega);
     (Sat.pBytes ([AV.int IntKind.u8 (IntKind.u8.wrap ((97 : Int) + IntKind.u8.wrap ((↑k : Int).tmod (26 : Int)))), AV.int IntKind.u8 (IntKind.u8.wrap ((97 : Int) + IntKind.u8.wrap (IntKind.i64.wrap ((↑k : Int).tdiv (26 : Int))))), AV.int IntKind.u8 (122 : Int)]) ([UInt8.ofNat ((97 : Int) + (↑k : Int) % (26 : Int)).toNat, UInt8.ofNat ((97 : Int) + (↑k : Int) / (26 : Int)).toNat, UInt8.ofNat (122 : Nat)]) (by kernel_rfl) (by (clear again again_tail; (simp [_w26, _w25, _w24, _w23, _w22, _w21, _w20, _w18]; omega)))
     (Sat.pCallE 7 ([AV.tree (List.map encGram fly), AV.agg [AV.int IntKind.i64 (1 : Int), AV.int IntKind.i64 (2 : Int), AV.str [UInt8.ofNat ((97 : Int) + (↑k : Int) % (26 : Int)).toNat, UInt8.ofNat ((97 : Int) + (↑k : Int) / (26 : Int)).toNat, UInt8.ofNat (122 : Nat)], AV.bool Bool.false]]) ([]) (by kernel_rfl) rfl rfl (@Go.Ab.Try.c7 (fly) ({ From := (1 : Int), To := (2 : Int), B := [UInt8.ofNat ((97 : Int) + (↑k : Int) % (26 : Int)).toNat, UInt8.ofNat ((97 : Int) + (↑k : Int) / (26 : Int)).toNat, UInt8.ofNat (122 : Nat)], Turned := Bool.false }) (by assumption))
     (Sat.pIfEN (decide (fly.length < (20 : Nat)) = decide ((↑(List.map encGram fly).length : Int) < (20 : Int))) (decide (fly.length < (20 : Nat)) = decide ((↑fly.length : Int) < (20 : Int))) (by kernel_rfl) (by simp only [List.length_map])
     (fun _h27 => (Sat.pRet ({ v := AV.bool Bool.false, back := [], out := [] }) (by kernel_rfl) (by (clear again again_tail; (have := comes_len fly; grind))))) (fun _h27 =>
     (Sat.pIf ((sent.length + (1 : Nat)) * (40 : Nat) ≤ (140737488355328 : Nat)) (by kernel_rfl) (fun _h28 =>
     (Sat.pIfE (sent.length = (List.map encGram sent).length) (True) (by kernel_rfl) (by simp only [List.length_map]) (fun _h29 =>
     (Sat.pIfE ((20 : Int) < (↑(List.map encGram (netSend fly { From := (1 : Int), To := (2 : Int), B := [UInt8.ofNat ((97 : Int) + (↑k : Int) % (26 : Int)).toNat, UInt8.ofNat ((97 : Int) + (↑k : Int) / (26 : Int)).toNat, UInt8.ofNat (122 : Nat)], Turned := Bool.false })).length : Int)) ((20 : Int) < (↑(netSend fly { From := (1 : Int), To := (2 : Int), B := [UInt8.ofNat ((97 : Int) + (↑k : Int) % (26 : Int)).toNat, UInt8.ofNat ((97 : Int) + (↑k : Int) / (26 : Int)).toNat, UInt8.ofNat (122 : Nat)], Turned := Bool.false }).length : Int)) (by kernel_rfl) (by simp only [List.length_map])
     (fun _h30 => (Sat.pRet ({ v := AV.bool Bool.false, back := [], out := [] }) (by kernel_rfl) (by (clear again again_tail; (exfalso; grind [send_len, comes_len, twice_len, turned_len]))))) (fun _h30 =>
     (Sat.pJoinE (L := loopD X.cfg (3 : FuncId) Proofs.Try.f3 (0 : Nat) (29 : Nat)) ({ T := [((0 : Nat), AV.tree (List.map encQ4 l)), ((3 : Nat), AV.tree (List.map encGram (netSend fly { From := (1 : Int), To := (2 : Int), B := [UInt8.ofNat ((97 : Int) + (↑k : Int) % (26 : Int)).toNat, UInt8.ofNat ((97 : Int) + (↑k : Int) / (26 : Int)).toNat, UInt8.ofNat (122 : Nat)], Turned := Bool.false }))), ((4 : Nat), AV.sref (Site.head (4 : Nat) (0 : Nat)) (0 : Nat) (sent.length + (1 : Nat))), ((5 : Nat), AV.int IntKind.i64 (↑k : Int)), ((13 : Nat), AV.int IntKind.i64 (0 : Int))], H := [(Site.head (4 : Nat) (0 : Nat), Blk.row (4 : Nat) (List.map encGram sent ++ [AV.agg [AV.int IntKind.i64 (1 : Int), AV.int IntKind.i64 (2 : Int), AV.str [UInt8.ofNat ((97 : Int) + (↑k : Int) % (26 : Int)).toNat, UInt8.ofNat ((97 : Int) + (↑k : Int) / (26 : Int)).toNat, UInt8.ofNat (122 : Nat)], AV.bool Bool.false]]) Bool.true Bool.true)] }) (by kernel_rfl) (by (clear again again_tail; (simp [encGram]; done))) rfl (again_tail (netSend fly { From := (1 : Int), To := (2 : Int), B := [UInt8.ofNat ((97 : Int) + (↑k : Int) % (26 : Int)).toNat, UInt8.ofNat ((97 : Int) + (↑k : Int) / (26 : Int)).toNat, UInt8.ofNat (122 : Nat)], Turned := Bool.false }) (sent ++ [{ From := (1 : Int), To := (2 : Int), B := [UInt8.ofNat ((97 : Int) + (↑k : Int) % (26 : Int)).toNat, UInt8.ofNat ((97 : Int) + (↑k : Int) / (26 : Int)).toNat, UInt8.ofNat (122 : Nat)], Turned := Bool.false }]) (by assumption) (by omega) (by (clear again again_tail; (simp; omega))) (by (clear again again_tail; (have := comes_len fly; grind))) (by (clear again again_tail; (exact send_near hn rfl))))))))
     (fun _h29 => (_h29 trivial).elim))) (fun _h28 => False.elim (by omega)))))))))))))))))) (fun _h19 =>
     (Sat.pIfE ((↑_x15.a.toNat : Int).tmod (6 : Int) = (1 : Int)) ((↑_x15.a.toNat : Int) % (6 : Int) = (1 : Int)) (by kernel_rfl) (by simp only [_w18]) (fun _h31 => (Sat.pNodeT true (by kernel_rfl) rfl
     (Sat.pNodeT true (by kernel_rfl) rfl (have _w32 : (↑k : Int).tmod (26 : Int) = (↑k : Int) % (26 : Int) := Int.tmod_eq_emod_of_nonneg (by omega);
     (have _w33 : IntKind.u8.wrap ((↑k : Int) % (26 : Int)) = (↑k : Int) % (26 : Int) := wU8 (by omega) (by omega);
     (have _w34 : IntKind.u8.wrap ((97 : Int) + (↑k : Int) % (26 : Int)) = (97 : Int) + (↑k : Int) % (26 : Int) := wU8 (by omega) (by omega);
     (have _w35 : (↑k : Int).tdiv (26 : Int) = (↑k : Int) / (26 : Int) := Int.tdiv_eq_ediv_of_nonneg (by omega);
     (have _w36 : IntKind.i64.wrap ((↑k : Int) / (26 : Int)) = (↑k : Int) / (26 : Int) := wI64 (by omega) (by omega);
     (have _w37 : IntKind.u8.wrap ((↑k : Int) / (26 : Int)) = (↑k : Int) / (26 : Int) := wU8 (by omega) (by omega);
     (have _w38 : IntKind.u8.wrap ((97 : Int) + (↑k : Int) / (26 : Int)) = (97 : Int) + (↑k : Int) / (26 : Int) := wU8 (by omega) (by omega);
     (Sat.pBytes ([AV.int IntKind.u8 (IntKind.u8.wrap ((97 : Int) + IntKind.u8.wrap ((↑k : Int).tmod (26 : Int)))), AV.int IntKind.u8 (IntKind.u8.wrap ((97 : Int) + IntKind.u8.wrap (IntKind.i64.wrap ((↑k : Int).tdiv (26 : Int))))), AV.int IntKind.u8 (122 : Int)]) ([UInt8.ofNat ((97 : Int) + (↑k : Int) % (26 : Int)).toNat, UInt8.ofNat ((97 : Int) + (↑k : Int) / (26 : Int)).toNat, UInt8.ofNat (122 : Nat)]) (by kernel_rfl) (by (clear again again_tail; (simp [_w38, _w37, _w36, _w35, _w34, _w33, _w32, _w18]; omega)))
     (Sat.pCallE 7 ([AV.tree (List.map encGram fly), AV.agg [AV.int IntKind.i64 (1 : Int), AV.int IntKind.i64 (2 : Int), AV.str [UInt8.ofNat ((97 : Int) + (↑k : Int) % (26 : Int)).toNat, UInt8.ofNat ((97 : Int) + (↑k : Int) / (26 : Int)).toNat, UInt8.ofNat (122 : Nat)], AV.bool Bool.false]]) ([]) (by kernel_rfl) rfl rfl (@Go.Ab.Try.c7 (fly) ({ From := (1 : Int), To := (2 : Int), B := [UInt8.ofNat ((97 : Int) + (↑k : Int) % (26 : Int)).toNat, UInt8.ofNat ((97 : Int) + (↑k : Int) / (26 : Int)).toNat, UInt8.ofNat (122 : Nat)], Turned := Bool.false }) (by assumption))
     (Sat.pIfEN (decide (fly.length < (20 : Nat)) = decide ((↑(List.map encGram fly).length : Int) < (20 : Int))) (decide (fly.length < (20 : Nat)) = decide ((↑fly.length : Int) < (20 : Int))) (by kernel_rfl) (by simp only [List.length_map])
     (fun _h39 => (Sat.pRet ({ v := AV.bool Bool.false, back := [], out := [] }) (by kernel_rfl) (by (clear again again_tail; (have := comes_len fly; grind))))) (fun _h39 =>
     (Sat.pIf ((sent.length + (1 : Nat)) * (40 : Nat) ≤ (140737488355328 : Nat)) (by kernel_rfl) (fun _h40 =>
     (Sat.pIfE (sent.length = (List.map encGram sent).length) (True) (by kernel_rfl) (by simp only [List.length_map]) (fun _h41 =>
     (Sat.pIfE ((20 : Int) < (↑(List.map encGram (netSend fly { From := (1 : Int), To := (2 : Int), B := [UInt8.ofNat ((97 : Int) + (↑k : Int) % (26 : Int)).toNat, UInt8.ofNat ((97 : Int) + (↑k : Int) / (26 : Int)).toNat, UInt8.ofNat (122 : Nat)], Turned := Bool.false })).length : Int)) ((20 : Int) < (↑(netSend fly { From := (1 : Int), To := (2 : Int), B := [UInt8.ofNat ((97 : Int) + (↑k : Int) % (26 : Int)).toNat, UInt8.ofNat ((97 : Int) + (↑k : Int) / (26 : Int)).toNat, UInt8.ofNat (122 : Nat)], Turned := Bool.false }).length : Int)) (by kernel_rfl) (by simp only [List.length_map])
     (fun _h42 => (Sat.pRet ({ v := AV.bool Bool.false, back := [], out := [] }) (by kernel_rfl) (by (clear again again_tail; (exfalso; grind [send_len, comes_len, twice_len, turned_len]))))) (fun _h42 =>
     (Sat.pJoinE (L := loopD X.cfg (3 : FuncId) Proofs.Try.f3 (0 : Nat) (29 : Nat)) ({ T := [((0 : Nat), AV.tree (List.map encQ4 l)), ((3 : Nat), AV.tree (List.map encGram (netSend fly { From := (1 : Int), To := (2 : Int), B := [UInt8.ofNat ((97 : Int) + (↑k : Int) % (26 : Int)).toNat, UInt8.ofNat ((97 : Int) + (↑k : Int) / (26 : Int)).toNat, UInt8.ofNat (122 : Nat)], Turned := Bool.false }))), ((4 : Nat), AV.sref (Site.head (4 : Nat) (0 : Nat)) (0 : Nat) (sent.length + (1 : Nat))), ((5 : Nat), AV.int IntKind.i64 (↑k : Int)), ((13 : Nat), AV.int IntKind.i64 (0 : Int))], H := [(Site.head (4 : Nat) (0 : Nat), Blk.row (4 : Nat) (List.map encGram sent ++ [AV.agg [AV.int IntKind.i64 (1 : Int), AV.int IntKind.i64 (2 : Int), AV.str [UInt8.ofNat ((97 : Int) + (↑k : Int) % (26 : Int)).toNat, UInt8.ofNat ((97 : Int) + (↑k : Int) / (26 : Int)).toNat, UInt8.ofNat (122 : Nat)], AV.bool Bool.false]]) Bool.true Bool.true)] }) (by kernel_rfl) (by (clear again again_tail; (simp [encGram]; done))) rfl (again_tail (netSend fly { From := (1 : Int), To := (2 : Int), B := [UInt8.ofNat ((97 : Int) + (↑k : Int) % (26 : Int)).toNat, UInt8.ofNat ((97 : Int) + (↑k : Int) / (26 : Int)).toNat, UInt8.ofNat (122 : Nat)], Turned := Bool.false }) (sent ++ [{ From := (1 : Int), To := (2 : Int), B := [UInt8.ofNat ((97 : Int) + (↑k : Int) % (26 : Int)).toNat, UInt8.ofNat ((97 : Int) + (↑k : Int) / (26 : Int)).toNat, UInt8.ofNat (122 : Nat)], Turned := Bool.false }]) (by assumption) (by omega) (by (clear again again_tail; (simp; omega))) (by (clear again again_tail; (have := comes_len fly; grind))) (by (clear again again_tail; (exact send_near hn rfl))))))))
     (fun _h41 => (_h41 trivial).elim))) (fun _h40 => False.elim (by omega))))))))))))))))) (fun _h31 =>
     (Sat.pIfE ((↑_x15.a.toNat : Int).tmod (6 : Int) = (2 : Int)) ((↑_x15.a.toNat : Int) % (6 : Int) = (2 : Int)) (by kernel_rfl) (by simp only [_w18]) (fun _h43 =>
     (have _u44 : _x15.b.toNat < (256 : Nat) := UInt8.toNat_lt _; (have _w45 : IntKind.i64.wrap (↑_x15.b.toNat : Int) = (↑_x15.b.toNat : Int) := wI64 (by omega) (by omega);
     (have _w46 : (↑_x15.b.toNat : Int).tmod (24 : Int) = (↑_x15.b.toNat : Int) % (24 : Int) := Int.tmod_eq_emod_of_nonneg (by omega);
     (Sat.pCallE 8 ([AV.tree (List.map encGram fly), AV.int IntKind.i64 ((IntKind.i64.wrap (↑_x15.b.toNat : Int)).tmod (24 : Int))]) ([]) (by kernel_rfl) (by simp only [_w46, _w45]) rfl (@Go.Ab.Try.c8 (fly) ((↑_x15.b.toNat : Int) % (24 : Int)) (by assumption))
     (Sat.pIfE ((20 : Int) < (↑(List.map encGram (netComes fly ((↑_x15.b.toNat : Int) % (24 : Int))).fst).length : Int)) ((20 : Int) < (↑(netComes fly ((↑_x15.b.toNat : Int) % (24 : Int))).fst.length : Int)) (by kernel_rfl) (by simp only [List.length_map])
     (fun _h47 => (Sat.pRet ({ v := AV.bool Bool.false, back := [], out := [] }) (by kernel_rfl) (by (clear again again_tail; (have := comes_len fly; grind))))) (fun _h47 =>
     (Sat.pJoinE (L := loopD X.cfg (3 : FuncId) Proofs.Try.f3 (0 : Nat) (29 : Nat)) ({ T := [((0 : Nat), AV.tree (List.map encQ4 l)), ((3 : Nat), AV.tree (List.map encGram (netComes fly ((↑_x15.b.toNat : Int) % (24 : Int))).fst)), ((4 : Nat), AV.sref (Site.head (4 : Nat) (0 : Nat)) (0 : Nat) sent.length), ((5 : Nat), AV.int IntKind.i64 (↑k : Int)), ((13 : Nat), AV.int IntKind.i64 (0 : Int))], H := [(Site.head (4 : Nat) (0 : Nat), Blk.row (4 : Nat) (List.map encGram sent) Bool.true Bool.true)] }) (by kernel_rfl) rfl rfl (again_tail ((netComes fly ((↑_x15.b.toNat : Int) % (24 : Int))).fst) (sent) (by assumption) (by omega) (by omega) (by assumption) (by (clear again again_tail; (intro g hg; exact hn g (comes_sub hg)))))))))))))
     (fun _h43 => (Sat.pIfE ((↑_x15.a.toNat : Int).tmod (6 : Int) = (3 : Int)) ((↑_x15.a.toNat : Int) % (6 : Int) = (3 : Int)) (by kernel_rfl) (by simp only [_w18]) (fun _h48 =>
     (have _u49 : _x15.b.toNat < (256 : Nat) := UInt8.toNat_lt _; (have _w50 : IntKind.i64.wrap (↑_x15.b.toNat : Int) = (↑_x15.b.toNat : Int) := wI64 (by omega) (by omega);
     (have _w51 : (↑_x15.b.toNat : Int).tmod (24 : Int) = (↑_x15.b.toNat : Int) % (24 : Int) := Int.tmod_eq_emod_of_nonneg (by omega);
     (Sat.pCallE 9 ([AV.tree (List.map encGram fly), AV.int IntKind.i64 ((IntKind.i64.wrap (↑_x15.b.toNat : Int)).tmod (24 : Int))]) ([]) (by kernel_rfl) (by simp only [_w51, _w50]) rfl (@Go.Ab.Try.c9 (fly) ((↑_x15.b.toNat : Int) % (24 : Int)) (by assumption))
     (Sat.pIfE ((20 : Int) < (↑(List.map encGram (netComes fly ((↑_x15.b.toNat : Int) % (24 : Int))).fst).length : Int)) ((20 : Int) < (↑(netComes fly ((↑_x15.b.toNat : Int) % (24 : Int))).fst.length : Int)) (by kernel_rfl) (by simp only [List.length_map])
     (fun _h52 => (Sat.pRet ({ v := AV.bool Bool.false, back := [], out := [] }) (by kernel_rfl) (by (clear again again_tail; (have := comes_len fly; grind))))) (fun _h52 =>
     (Sat.pJoinE (L := loopD X.cfg (3 : FuncId) Proofs.Try.f3 (0 : Nat) (29 : Nat)) ({ T := [((0 : Nat), AV.tree (List.map encQ4 l)), ((3 : Nat), AV.tree (List.map encGram (netComes fly ((↑_x15.b.toNat : Int) % (24 : Int))).fst)), ((4 : Nat), AV.sref (Site.head (4 : Nat) (0 : Nat)) (0 : Nat) sent.length), ((5 : Nat), AV.int IntKind.i64 (↑k : Int)), ((13 : Nat), AV.int IntKind.i64 (0 : Int))], H := [(Site.head (4 : Nat) (0 : Nat), Blk.row (4 : Nat) (List.map encGram sent) Bool.true Bool.true)] }) (by kernel_rfl) rfl rfl (again_tail ((netComes fly ((↑_x15.b.toNat : Int) % (24 : Int))).fst) (sent) (by assumption) (by omega) (by omega) (by assumption) (by (clear again again_tail; (intro g hg; exact hn g (comes_sub hg)))))))))))))
     (fun _h48 => (Sat.pIfE ((↑_x15.a.toNat : Int).tmod (6 : Int) = (4 : Int)) ((↑_x15.a.toNat : Int) % (6 : Int) = (4 : Int)) (by kernel_rfl) (by simp only [_w18]) (fun _h53 =>
     (have _u54 : _x15.b.toNat < (256 : Nat) := UInt8.toNat_lt _; (have _w55 : IntKind.i64.wrap (↑_x15.b.toNat : Int) = (↑_x15.b.toNat : Int) := wI64 (by omega) (by omega);
     (have _w56 : (↑_x15.b.toNat : Int).tmod (24 : Int) = (↑_x15.b.toNat : Int) % (24 : Int) := Int.tmod_eq_emod_of_nonneg (by omega);
     (Sat.pCallE 10 ([AV.tree (List.map encGram fly), AV.int IntKind.i64 ((IntKind.i64.wrap (↑_x15.b.toNat : Int)).tmod (24 : Int))]) ([]) (by kernel_rfl) (by simp only [_w56, _w55]) rfl (@Go.Ab.Try.c10 (fly) ((↑_x15.b.toNat : Int) % (24 : Int)) (by assumption))
     (Sat.pIfE ((20 : Int) < (↑(List.map encGram (netTwice fly ((↑_x15.b.toNat : Int) % (24 : Int)))).length : Int)) ((20 : Int) < (↑(netTwice fly ((↑_x15.b.toNat : Int) % (24 : Int))).length : Int)) (by kernel_rfl) (by simp only [List.length_map])
     (fun _h57 => (Sat.pRet ({ v := AV.bool Bool.false, back := [], out := [] }) (by kernel_rfl) (by (clear again again_tail; (have := twice_len fly; grind))))) (fun _h57 =>
     (Sat.pJoinE (L := loopD X.cfg (3 : FuncId) Proofs.Try.f3 (0 : Nat) (29 : Nat)) ({ T := [((0 : Nat), AV.tree (List.map encQ4 l)), ((3 : Nat), AV.tree (List.map encGram (netTwice fly ((↑_x15.b.toNat : Int) % (24 : Int))))), ((4 : Nat), AV.sref (Site.head (4 : Nat) (0 : Nat)) (0 : Nat) sent.length), ((5 : Nat), AV.int IntKind.i64 (↑k : Int)), ((13 : Nat), AV.int IntKind.i64 (0 : Int))], H := [(Site.head (4 : Nat) (0 : Nat), Blk.row (4 : Nat) (List.map encGram sent) Bool.true Bool.true)] }) (by kernel_rfl) rfl rfl (again_tail (netTwice fly ((↑_x15.b.toNat : Int) % (24 : Int))) (sent) (by assumption) (by omega) (by omega) (by assumption) (by (clear again again_tail; (intro g hg; exact hn g (twice_sub hg)))))))))))))
     (fun _h53 => (Sat.pNodeT true (by kernel_rfl) rfl (Sat.pElemH (encQ4) (l) (List.map encQ4 l) ((k, fly, sent).fst) ((k, fly, sent).fst) (_x15) (by kernel_rfl) rfl rfl _hx16
     (Sat.pFin ((2 : Int)) 4 (2) (by kernel_rfl) rfl (by decide) (Sat.pNodeT true (by kernel_rfl) rfl
     (Sat.pElemH (encQ4) (l) (List.map encQ4 l) ((k, fly, sent).fst) ((k, fly, sent).fst) (_x15) (by kernel_rfl) rfl rfl _hx16 (Sat.pFin ((3 : Int)) 4 (3) (by kernel_rfl) rfl (by decide)
     (have _u58 : _x15.b.toNat < (256 : Nat) := UInt8.toNat_lt _; (have _w59 : IntKind.i64.wrap (↑_x15.b.toNat : Int) = (↑_x15.b.toNat : Int) := wI64 (by omega) (by omega);
     (have _w60 : (↑_x15.b.toNat : Int).tmod (24 : Int) = (↑_x15.b.toNat : Int) % (24 : Int) := Int.tmod_eq_emod_of_nonneg (by omega); (have _u61 : _x15.c.toNat < (256 : Nat) := UInt8.toNat_lt _;
     (have _w62 : IntKind.i64.wrap (↑_x15.c.toNat : Int) = (↑_x15.c.toNat : Int) := wI64 (by omega) (by omega);
     (have _w63 : IntKind.i64.wrap ((↑_x15.c.toNat : Int) * (256 : Int)) = (↑_x15.c.toNat : Int) * (256 : Int) := wI64 (by omega) (by omega); (have _u64 : _x15.d.toNat < (256 : Nat) := UInt8.toNat_lt _;
     (have _w65 : IntKind.i64.wrap (↑_x15.d.toNat : Int) = (↑_x15.d.toNat : Int) := wI64 (by omega) (by omega);
     (have _w66 : IntKind.i64.wrap ((↑_x15.c.toNat : Int) * (256 : Int) + (↑_x15.d.toNat : Int)) = (↑_x15.c.toNat : Int) * (256 : Int) + (↑_x15.d.toNat : Int) := wI64 (by omega) (by omega);
     (Sat.pCallE 11 ([AV.tree (List.map encGram fly), AV.int IntKind.i64 ((IntKind.i64.wrap (↑_x15.b.toNat : Int)).tmod (24 : Int)), AV.int IntKind.i64 (IntKind.i64.wrap (IntKind.i64.wrap (IntKind.i64.wrap (↑_x15.c.toNat : Int) * (256 : Int)) + IntKind.i64.wrap (↑_x15.d.toNat : Int)))]) ([]) (by kernel_rfl) (by simp only [_w66, _w65, _w63, _w62, _w60, _w59]) rfl (@Go.Ab.Try.c11 (fly) ((↑_x15.b.toNat : Int) % (24 : Int)) ((↑_x15.c.toNat : Int) * (256 : Int) + (↑_x15.d.toNat : Int)) (by assumption) (by omega))
     (Sat.pIfE ((20 : Int) < (↑(List.map encGram (netTurned fly ((↑_x15.b.toNat : Int) % (24 : Int)) ((↑_x15.c.toNat : Int) * (256 : Int) + (↑_x15.d.toNat : Int))).fst).length : Int)) ((20 : Int) < (↑(netTurned fly ((↑_x15.b.toNat : Int) % (24 : Int)) ((↑_x15.c.toNat : Int) * (256 : Int) + (↑_x15.d.toNat : Int))).fst.length : Int)) (by kernel_rfl) (by simp only [List.length_map])
     (fun _h67 => (Sat.pRet ({ v := AV.bool Bool.false, back := [], out := [] }) (by kernel_rfl) (by (clear again again_tail; (exfalso; grind [send_len, comes_len, twice_len, turned_len]))))) (fun _h67 =>
     (Sat.pJoinE (L := loopD X.cfg (3 : FuncId) Proofs.Try.f3 (0 : Nat) (29 : Nat)) ({ T := [((0 : Nat), AV.tree (List.map encQ4 l)), ((3 : Nat), AV.tree (List.map encGram (netTurned fly ((↑_x15.b.toNat : Int) % (24 : Int)) ((↑_x15.c.toNat : Int) * (256 : Int) + (↑_x15.d.toNat : Int))).fst)), ((4 : Nat), AV.sref (Site.head (4 : Nat) (0 : Nat)) (0 : Nat) sent.length), ((5 : Nat), AV.int IntKind.i64 (↑k : Int)), ((13 : Nat), AV.int IntKind.i64 (0 : Int))], H := [(Site.head (4 : Nat) (0 : Nat), Blk.row (4 : Nat) (List.map encGram sent) Bool.true Bool.true)] }) (by kernel_rfl) rfl rfl (again_tail ((netTurned fly ((↑_x15.b.toNat : Int) % (24 : Int)) ((↑_x15.c.toNat : Int) * (256 : Int) + (↑_x15.d.toNat : Int))).fst) (sent) (by assumption) (by omega) (by omega) (by assumption) (by (clear again again_tail; (exact turned_near hn)))))))))))))))))))))))))))))))))))))))))))))
     (fun _h14 => (Sat.pRet ({ v := AV.bool Bool.true, back := [], out := [] }) (by kernel_rfl) rfl)))
theorem law_NetMade (x0 : List Q4) (_h0 : (∀ x ∈ x0, True) ∧ x0.length ≤ maxLen) : X.call 3 [.tree (x0.map encQ4)] [] ⟨.bool true, [], []⟩ := c3 x0
end Go.Ab.Try
