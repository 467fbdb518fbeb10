/- Package cardamomplay, its numbers: as plain Lean. -/
import Derived.Test.YtmppanboolejjaaGreatG2
import Derived.Test.YtmppanboolejjaaGreatAb
namespace Go.Ab.Tryz
open Go
set_option maxRecDepth 100000
set_option maxHeartbeats 4000000
theorem c10 (l : List UInt8) : X.call 10 [.tree (l.map encB)] [] ⟨.ref (.out 0) 0 0,[],[.box (encPicks ⟨l,0⟩) true]⟩ := by
  refine spec_of ok Go.Proofs.Tryz.func10 ok10 ?_
  refine .r
theorem _root_.Go.Ab.Picks.num_255 (p : Picks) (m : Int) : (p.num m).1 ≤ 255 := by
  unfold Picks.num; split
  · simp
  · have h1 := UInt8.toNat_lt (p.l.getD p.n 0)
    have h2 := Int.emod_lt_of_pos ((p.l.getD p.n 0).toNat : Int) (b := m) (by omega)
    by_cases h : m ≤ 255
    · simp only; omega
    · simp only; rw [Int.emod_eq_of_lt (by omega) (by omega)]; omega
theorem num_call (p : Picks) (m : Int) (hp : p.l.length ≤ 100000) (hm : m ≤ 100000) :
    X.call 13 [.ref (.inc 0) 0 0,.int .i64 m] [.box (encPicks p) true] ⟨.int .i64 (p.num m).1,[.box (encPicks (p.num m).2) true],[]⟩ := by
  refine spec_of ok Go.Proofs.Tryz.func13 ok13 ?_
  refine (.k ((↑(List.map encB p.l).length : Int) ≤ (↑p.n : Int)) (p.l.length ≤ p.n) (by simp only [List.length_map,Int.ofNat_le])
   (fun _h5 => .et ((↑(List.map encB p.l).length : Int) ≤ (↑p.n : Int)) (by simp only [List.length_map,Int.ofNat_le]) _h5
   (.et ((↑(List.map encB p.l).length : Int) ≤ (↑p.n : Int)) (by simp only [List.length_map,Int.ofNat_le]) _h5 (.T (.q (Res.mk
   (.int .i64 0) [.box (encPicks p) true] []) (by (simp_all [Picks.num,encPicks,List.getD]; done))))))
   (fun _h5 => .eF ((↑(List.map encB p.l).length : Int) ≤ (↑p.n : Int)) (by simp only [List.length_map,Int.ofNat_le]) _h5
   (.eF ((↑(List.map encB p.l).length : Int) ≤ (↑p.n : Int)) (by simp only [List.length_map,Int.ofNat_le]) _h5 (.i (m < 1) (fun _h6 => .q (Res.mk
   (.int .i64 0) [.box (encPicks p) true] []) (by (simp_all [Picks.num,encPicks,List.getD]; done)))
   (fun _h6 => have _w7 := wI64' ((↑p.n : Int) + (1 : Int)); have _w8 := wI64' ((↑p.n : Int) + (1 : Int) - (1 : Int)); .k (0 ≤ IntKind.i64.wrap (IntKind.i64.wrap ((↑p.n : Int) + 1) - 1)) (0 ≤ (↑p.n : Int) + 1 - 1) (by simp only [_w8,_w7])
   (fun _h9 => .eM encB p.l ((IntKind.i64.wrap (IntKind.i64.wrap ((↑p.n : Int) + 1) - 1)).toNat) (((↑p.n : Int) + 1 - 1).toNat) (by simp only [_w8,_w7]) (by omega)
   (fun _x10 _hx11 => .k (m ≠ 0) (¬m = 0) (by simp only [])
   (fun _h12 => have _u13 : _x10.toNat < (256 : Nat) := UInt8.toNat_lt _; have _w14 := wI64' (↑_x10.toNat : Int); have _w15 : (↑_x10.toNat : Int).tmod m = (↑_x10.toNat : Int) % m := Int.tmod_eq_emod_of_nonneg (by omega); have _w16 : (0 : Int) ≤ (↑_x10.toNat : Int) % m ∧ (↑_x10.toNat : Int) % m < m := ⟨Int.emod_nonneg _ (by omega),Int.emod_lt_of_pos _ (by omega)⟩; .q (Res.mk
   (.int .i64 ((IntKind.i64.wrap (↑_x10.toNat : Int)).tmod m)) [.box (.agg [.tree (List.map encB p.l),.int .i64 (IntKind.i64.wrap ((↑p.n : Int) + 1))]) true] []) (by grind [Picks.num,encPicks]))
   (fun _h12 => False.elim (by omega)))) (fun _h9 => False.elim (by omega)))))))
theorem c13 (p : Picks) (m : Int) (hp : p.l.length ≤ 100000) (hm : m ≤ 100000) (h1 : 1 ≤ m) :
    X.call 13 [.ref (.inc 0) 0 0,.int .i64 m] [.box (encPicks p) true] ⟨.int .i64 (p.num m).1,[.box (encPicks (p.num m).2) true],[]⟩ ∧ (0 ≤ (p.num m).1 ∧ (p.num m).1 < m ∧ (p.num m).2.l = p.l) :=
  ⟨num_call p m hp hm,p.num_eq h1⟩
theorem c13a (p : Picks) (m : Int) (hp : p.l.length ≤ 100000) (hm : m ≤ 100000) :
    X.call 13 [.ref (.inc 0) 0 0,.int .i64 m] [.box (encPicks p) true] ⟨.int .i64 (p.num m).1,[.box (encPicks (p.num m).2) true],[]⟩ ∧ (0 ≤ (p.num m).1 ∧ (p.num m).1 ≤ 255 ∧ (p.num m).2.l = p.l) :=
  ⟨num_call p m hp hm,p.num_lo m,p.num_255 m,p.num_l m⟩
theorem c111 (p : Picks) (hp : p.l.length ≤ 100000) :
    X.call 111 [.ref (.inc 0) 0 0] [.box (encPicks p) true] ⟨.str p.tag.1,[.box (encPicks p.tag.2) true],[]⟩ := by
  refine spec_of ok Go.Proofs.Tryz.func111 ok111 ?_
  refine
   (have _hc3 := ((@Tryz.c13 (p) ((6 : Int)) ‹_› (by omega) (by omega))).2.1; have _hc4 := ((@Tryz.c13 (p) ((6 : Int)) ‹_› (by omega) (by omega))).2.2.1; have _hc5 := ((@Tryz.c13 (p) ((6 : Int)) ‹_› (by omega) (by omega))).2.2.2; .c ((@Tryz.c13 (p) ((6 : Int)) ‹_› (by omega) (by omega))).1
   (.i (0 ≤ (p.num 6).fst ∧ (p.num 6).fst < 6)
   (fun _h6 => .em AV.str ([[],[(97 : UInt8)],[(97 : UInt8),(98 : UInt8)],[(97 : UInt8),(98 : UInt8),(99 : UInt8)],[(98 : UInt8)],[(98 : UInt8),(97 : UInt8)]]) ((p.num 6).fst.toNat) (by (simp; omega))
   (fun _x7 _hx8 => .q (Res.mk (.str _x7) [.box (.agg [.tree (List.map encB (p.num 6).snd.l),.int .i64 (↑(p.num 6).snd.n : Int)]) true] []) (by (simp_all [Picks.tag,tags,encPicks]; done))))
   (fun _h6 => False.elim (by omega))))
end Go.Ab.Tryz
