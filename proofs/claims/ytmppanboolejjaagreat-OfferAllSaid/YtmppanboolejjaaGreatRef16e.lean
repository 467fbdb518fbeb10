/- Package cardamomref16: gossip out of bytes, as plain Lean. -/
import Derived.Test.YtmppanboolejjaaGreatRef16c
import Derived.Test.YtmppanboolejjaaGreatRef16d
namespace Go.Ab.Tryz
open Go
set_option maxRecDepth 100000
set_option maxHeartbeats 4000000
def SmV (n : Nat) (v : View) : Prop := v.Filter.length ≤ n ∧ v.Seen.length ≤ n ∧ v.Epochs.length ≤ 10
theorem SmV.app {n : Nat} {l : List View} {w : View} (h : ∀ v ∈ l,SmV n v) (hw : SmV n w) : ∀ v ∈ l ++ [w],SmV n v := fun v hv => by
  rcases List.mem_append.1 hv with hv | hv
  · exact h v hv
  · rw [List.mem_singleton.1 hv]; exact hw
theorem c52 (b : List UInt8) (size : Nat) (h4 : size ≤ 5) (hb : b.length ≤ 5000) : ∃ p : Gossip × Bool,X.call 52 [.tree (b.map encB),.int .i64 size] [] ⟨.tuple [encGossip p.1,.bool p.2],[],[]⟩ ∧ (p.2 = true → p.1.may parse size = true) ∧ (p.2 = true → IsGoss b p.1) := by
  refine spec_ex ok Go.Proofs.Tryz.func52 ok52 ?_
  have again_b : ∀ (F T n : Int) (B : List UInt8) (bad : Bool) (vs : List View) (hv : ∀ v ∈ vs,SmV 5001 v) (hvl : vs.length ≤ 5001) (hB : B.length ≤ 5000) (hn0 : 0 ≤ n) (hn : n ≤ 1000000000000),SatE X 52 (loopD X.cfg 52 Go.Proofs.Tryz.f52 0 26 ⟨[(0,.tree (b.map encB)),(1,.int .i64 size),(4,.ref (.head 4 0) 0 0),(6,.ref (.head 6 0) 0 0),(7,.ref (.head 7 0) 0 0),(13,.int .i64 n)],[(.head 4 0,.box (.agg [.int .i64 0,.int .i64 0,.sref (.head 4 1) 0 0,.sref (.head 4 2) 0 0]) true),(.head 4 1,.row 5 [] true true),(.head 4 2,.row 8 [] true true),(.head 6 0,.box (.agg [.tree (B.map encB),.bool bad]) true),(.head 7 0,.box (.agg [.int .i64 F,.int .i64 T,.sref (.head 7 1) 0 vs.length,.sref (.head 7 2) 0 0]) true),(.head 7 1,.row 5 (vs.map encView) true true),(.head 7 2,.row 8 [] true true)]⟩) (fun r => ∃ p : Gossip × Bool,r = ⟨.tuple [encGossip p.1,.bool p.2],[],[]⟩ ∧ (p.2 = true → p.1.may parse size = true) ∧ (p.2 = true → IsGoss b p.1)) := by
    intro F T n B bad vs hv hvl hB hn0 hn
    refine SatE.pLoop 26 (St.mk [(0,.tree (List.map encB b)),(1,.int .i64 (↑size : Int)),(4,.ref (.head 4 0) 0 0),(6,.ref (.head 6 0) 0 0),(7,.ref
     (.head 7 0) 0 0),(13,.int .i64 n)] [(.head 4 0,.box (.agg [.int .i64 0,.int .i64 0,.sref (.head 4 1) 0 0,.sref (.head 4 2) 0 0]) true),(.head 4 1,.row 5 [] true true),
     (.head 4 2,.row 8 [] true true),(.head 6 0,.box (.agg [.tree (List.map encB B),.bool bad]) true),(.head 7 0,.box (.agg [.int .i64 F,.int .i64 T,.sref (.head 7 1) 0 vs.length,.sref
     (.head 7 2) 0 0]) true),(.head 7 1,.row 5 (List.map encView vs) true true),
     (.head 7 2,.row 8 [] true true)]) (by kernel_rfl) (fun (p : Int × List UInt8 × Bool × List Version) => ⟨[(0,.tree (b.map encB)),(1,.int .i64 size),(4,.ref (.head 4 0) 0 0),(6,.ref
     (.head 6 0) 0 0),(7,.ref (.head 7 0) 0 0),(13,.int .i64 p.1)],[(.head 4 0,.box (.agg [.int .i64 0,.int .i64 0,.sref (.head 4 1) 0 0,.sref (.head 4 2) 0 0]) true),
     (.head 4 1,.row 5 [] true true),(.head 4 2,.row 8 [] true true),(.head 6 0,.box (.agg [.tree (p.2.1.map encB),.bool p.2.2.1]) true),(.head 7 0,.box (.agg [.int .i64 F,.int .i64 T,.sref
     (.head 7 1) 0 vs.length,.sref (.head 7 2) 0 p.2.2.2.length]) true),(.head 7 1,.row 5 (vs.map encView) true true),
     (.head 7 2,.row 8 (p.2.2.2.map encVersion) true true)]⟩) (fun p => p.1 ≤ 1000000000000 ∧ -1000000000000 ≤ p.1 ∧ p.2.1.length ≤ 5000 ∧ p.2.2.2.length ≤ 5001 ∧ p.2.1.length + p.2.2.2.length ≤ 5000 ∧ (∀ v ∈ p.2.2.2,v.may = true)) (fun p => p.2.1.length) (n,B,bad,[]) rfl ?_ ?_
    · exact ⟨by dsimp only; omega,by dsimp only; omega,by dsimp only; omega,by simp,by simp; omega,by simp⟩
    · rintro ⟨m,C,bad2,ws⟩ hI again
      obtain ⟨i1,i2,i3,i4,i5,i6⟩ := hI
      simp only at i1 i2 i3 i4 i5 i6
      refine (.i (0 < m) (fun _h28 => .it _h28 (.it _h28 (.it _h28 (.it _h28 (.it _h28 (.m bad2 (fun _h29 => Exists.elim (@Tryz.c88 (C) ‹_›) (fun _y30 ⟨_hz31,_hc32,_hc33⟩ => .c _hz31 (.m _y30.snd.snd
       (fun _h34 => .r (Gossip.mk 0 0 [] [],false) ⟨(by dsimp only; (clear again; (intro _; grind))),(by dsimp only; (clear again; (intro _; grind)))⟩)
       (fun _h34 => have _hc35 := (_hc33 _h34).1; have _hc36 := (_hc33 _h34).2; .z encB C 1 (fun _ => rfl)
       (.k (0 ≤ (↑_y30.snd.fst : Int) ∧ (↑_y30.snd.fst : Int) ≤ (↑(List.map encB C).length : Int)) (0 ≤ _y30.snd.fst ∧ _y30.snd.fst ≤ C.length) (by simp only [List.length_map,Int.ofNat_le,ciLe])
       (fun _h37 => .i ((ws.length + 1) * (96 : Nat) ≤ 140737488355328) (fun _h38 => .k (ws.length = (List.map encVersion ws).length) (True) (by simp only [List.length_map])
       (fun _h39 => have _w40 := wI64' (m - (1 : Int)); .A (St.mk [(0,.tree (List.map encB b)),(1,.int .i64 (↑size : Int)),(4,.ref (.head 4 0) 0 0),(6,.ref (.head 6 0) 0 0),(7,.ref
       (.head 7 0) 0 0),(13,.int .i64 (IntKind.i64.wrap (m - 1)))] [(.head 4 0,.box (.agg [.int .i64 0,.int .i64 0,.sref (.head 4 1) 0 0,.sref (.head 4 2) 0 0]) true),(.head 4 1,.row 5 [] true true),
       (.head 4 2,.row 8 [] true true),(.head 6 0,.box (.agg [.tree (List.drop (↑_y30.snd.fst : Int).toNat (List.map encB C)),.bool bad2]) true),(.head 7 0,.box (.agg [.int .i64 F,.int .i64 T,.sref
       (.head 7 1) 0 vs.length,.sref (.head 7 2) 0 (ws.length + 1)]) true),(.head 7 1,.row 5 (List.map encView vs) true true),
       (.head 7 2,.row 8 (List.map encVersion ws ++ [encVersion _y30.fst]) true true)]) (by simp [encVersion,_w40]) (again ((m - (1 : Int),List.drop (↑_y30.snd.fst : Int).toNat C,bad2,ws ++ [_y30.fst])) ⟨(by dsimp only; omega),⟨(by dsimp only; omega),⟨(by dsimp only; (clear again; (simp; omega))),⟨(by dsimp only; (clear again; (simp; omega))),⟨(by dsimp only; (clear again; (simp; omega))),(by dsimp only; (clear again; (intro _; grind)))⟩⟩⟩⟩⟩ (by dsimp only; (clear again; (simp; omega)))))
       (fun _h39 => (_h39 trivial).elim)) (fun _h38 => False.elim (by omega))) (fun _h37 => False.elim (by omega))))))) (fun _h29 => .t _h29
       (.r (Gossip.mk 0 0 [] [],false) ⟨(by dsimp only; (clear again; (intro _; grind))),(by dsimp only; (clear again; (intro _; grind)))⟩)))))))) (fun _h28 => .iF _h28 (.iF _h28 (.iF _h28 (.iF _h28
       (.iF _h28 (.F (.n bad2 (fun _h41 => .r (Gossip.mk 0 0 [] [],false) ⟨(by dsimp only; (clear again; (intro _; grind))),(by dsimp only; (clear again; (intro _; grind)))⟩)
       (fun _h41 => have _w42 : List.take vs.length (List.map encView vs) = List.map encView vs := List.take_of_length_le (by simp); have _w43 : List.take ws.length (List.map encVersion ws) = List.map encVersion ws := List.take_of_length_le (by simp); Exists.elim (@Tryz.c49 (Gossip.mk F T vs ws) ((↑size : Int)) (by omega) (by omega) (by dsimp only; omega) (by dsimp only; omega) (by dsimp only; (clear again; (intro v hv2; have := hv v hv2; unfold SmV at this; omega))) (by dsimp only; (clear again; (intro v hv2; have f := Version.may_fit (i6 v hv2); have := f.al; have := f.tl; have := f.bl; omega))))
       (fun _y44 ⟨_hz45,_hc46,_hc47,_hc48,_hc49⟩ => .C ([.agg [.int .i64 F,.int .i64 T,.tree (List.take vs.length (List.map encView vs)),.tree (List.take ws.length (List.map encVersion ws))],.int .i64 (↑size : Int)]) ([]) (by simp [encGossip,_w43,_w42]) rfl _hz45
       (.m _y44.snd (fun _h50 => have _hc51 := (_hc49 _h50); .y _h50 (.y _h50 (.y _h50 (.y _h50 (.y _h50 (.T
       (.r (Gossip.mk 0 0 [] [],false) ⟨(by dsimp only; (clear again; (intro _; grind))),(by dsimp only; (clear again; (intro _; grind)))⟩)))))))
       (fun _h50 => have _hc52 := (_hc47 _h50); have _hc53 := (_hc48 _h50); .x _h50 (.z encB _y44.fst 1 (fun _ => rfl) (.B (List.map encB _y44.fst) _y44.fst rfl (.x _h50 (.x _h50 (.z encB b 1 (fun _ => rfl)
       (.B (List.map encB b) b rfl (.x _h50 (.x _h50 (.j (_y44.fst = b)
       (fun _h54 => .r (Gossip.mk 0 0 [] [],false) ⟨(by dsimp only; (clear again; (intro _; grind))),(by dsimp only; (clear again; (intro _; grind)))⟩)
       (fun _h54 => .q (Res.mk (AV.tuple [.agg [.int .i64 F,.int .i64 T,.tree (List.take vs.length (List.map encView vs)),.tree (List.take ws.length (List.map encVersion ws))],.bool true]) [] []) ⟨(Gossip.mk F T vs ws,Bool.true),(by simp [encGossip,_w43,_w42]),⟨(by dsimp only; (clear again; (simp; omega))),(by dsimp only; (clear again; (intro _; grind)))⟩⟩))))))))))))))))))))))
  refine (.k ((↑(List.map encB b).length : Int) < 2) (b.length < 2) (by simp only [List.length_map,icLt])
   (fun _h6 => .et ((↑(List.map encB b).length : Int) < 2) (by simp only [List.length_map,icLt]) _h6 (.et ((↑(List.map encB b).length : Int) < 2) (by simp only [List.length_map,icLt]) _h6
   (.et ((↑(List.map encB b).length : Int) < 2) (by simp only [List.length_map,icLt]) _h6 (.T (.r (Gossip.mk 0 0 [] [],false) ⟨(by dsimp only; simp),(by dsimp only; simp)⟩)))))
   (fun _h6 => .eF ((↑(List.map encB b).length : Int) < 2) (by simp only [List.length_map,icLt]) _h6 (.eF ((↑(List.map encB b).length : Int) < 2) (by simp only [List.length_map,icLt]) _h6
   (.eF ((↑(List.map encB b).length : Int) < 2) (by simp only [List.length_map,icLt]) _h6 (.k (2000 < (↑(List.map encB b).length : Int)) (2000 < b.length) (by simp only [List.length_map,ciLt])
   (fun _h7 => .r (Gossip.mk 0 0 [] [],false) ⟨(by dsimp only; simp),(by dsimp only; simp)⟩)
   (fun _h7 => have _w8 := wI64' ((↑b.length : Int) - (2 : Int)); .k (0 ≤ IntKind.i64.wrap ((↑(List.map encB b).length : Int) - 2) ∧ IntKind.i64.wrap ((↑(List.map encB b).length : Int) - 2) ≤ (↑(List.map encB b).length : Int)) (0 ≤ (↑b.length : Int) - 2 ∧ (↑b.length : Int) - 2 ≤ (↑b.length : Int)) (by simp only [List.length_map,_w8])
   (fun _h9 => Exists.elim (@Tryz.c86 (List.take ((↑b.length : Int) - (2 : Int)).toNat b) (Bool.false) (by (clear again_b; (simp; omega))))
   (fun _y10 _hz11 => have _hc12 := _hz11.2.1; have _hc13 := _hz11.2.2.1; have _hc14 := _hz11.2.2.2.1; have _hn15 : _y10.snd.fst.length ≤ Min.min ((↑b.length : Int) - (2 : Int)).toNat b.length := Iff.mp (by simp only [List.length_take]) _hc14; have _hc16 := _hz11.2.2.2.2; have _hn17 : _y10.snd.snd = Bool.false → _y10.snd.fst.length < Min.min ((↑b.length : Int) - (2 : Int)).toNat b.length := Iff.mp (by simp only [List.length_take]) _hc16; .C ([.ref
   (.inc 0) 0 0]) ([.box
   (.agg [.tree (List.take (IntKind.i64.wrap ((↑(List.map encB b).length : Int) - 2)).toNat (List.map encB b)),.bool false]) true]) rfl (by simp [encBr,_w8]) _hz11.1 (Exists.elim (@Tryz.c86 (_y10.snd.fst) (_y10.snd.snd) (by omega))
   (fun _y18 ⟨_hz19,_hc20,_hc21,_hc22,_hc23⟩ => .c _hz19 (Exists.elim (@Tryz.c86 (_y18.snd.fst) (_y18.snd.snd) (by omega)) (fun _y24 ⟨_hz25,_hc26,_hc27,_hc28,_hc29⟩ => .c _hz25 ?_))))))
   (fun _h9 => False.elim (by omega))))))))
  refine SatE.pLoop 7 (St.mk [(0,.tree (List.map encB b)),(1,.int .i64 (↑size : Int)),(4,.ref (.head 4 0) 0 0),(6,.ref (.head 6 0) 0 0),(7,.ref
   (.head 7 0) 0 0),(8,.int .i64 _y24.fst)] [(.head 4 0,.box (.agg [.int .i64 0,.int .i64 0,.sref (.head 4 1) 0 0,.sref (.head 4 2) 0 0]) true),(.head 4 1,.row 5 [] true true),
   (.head 4 2,.row 8 [] true true),(.head 6 0,.box (.agg [.tree (List.map encB _y24.snd.fst),.bool _y24.snd.snd]) true),(.head 7 0,.box (.agg [.int .i64 _y10.fst,.int .i64 _y18.fst,.sref
   (.head 7 1) 0 0,.sref (.head 7 2) 0 0]) true),(.head 7 1,.row 5 [] true true),
   (.head 7 2,.row 8 [] true true)]) (by kernel_rfl) (fun (p : Int × List UInt8 × Bool × List View) => ⟨[(0,.tree (b.map encB)),(1,.int .i64 size),(4,.ref (.head 4 0) 0 0),(6,.ref
   (.head 6 0) 0 0),(7,.ref (.head 7 0) 0 0),(8,.int .i64 p.1)],[(.head 4 0,.box (.agg [.int .i64 0,.int .i64 0,.sref (.head 4 1) 0 0,.sref (.head 4 2) 0 0]) true),
   (.head 4 1,.row 5 [] true true),(.head 4 2,.row 8 [] true true),(.head 6 0,.box (.agg [.tree (p.2.1.map encB),.bool p.2.2.1]) true),(.head 7 0,.box
   (.agg [.int .i64 _y10.1,.int .i64 _y18.1,.sref (.head 7 1) 0 p.2.2.2.length,.sref (.head 7 2) 0 0]) true),(.head 7 1,.row 5 (p.2.2.2.map encView) true true),
   (.head 7 2,.row 8 [] true true)]⟩) (fun p => p.1 ≤ 1000000000000 ∧ -1000000000000 ≤ p.1 ∧ p.2.1.length ≤ 5000 ∧ p.2.2.2.length ≤ 5001 ∧ (p.2.2.1 = false → p.2.1.length + p.2.2.2.length ≤ 5000) ∧ (∀ v ∈ p.2.2.2,SmV 5001 v)) (fun p => p.2.1.length + (!p.2.2.1).toNat) (_y24.1,_y24.2.1,_y24.2.2,[]) rfl ?_ ?_
  · refine ⟨by dsimp only; omega,by dsimp only; omega,by dsimp only; omega,by simp,fun h => ?_,by simp⟩
    simp only [List.length_nil]; omega
  · rintro ⟨n,B,bad,vs⟩ hI again
    obtain ⟨i1,i2,i3,i4,i5,i6⟩ := hI
    simp only at i1 i2 i3 i4 i5 i6
    refine (.i (0 < n) (fun _h42 => .it _h42 (.it _h42 (.it _h42 (.it _h42 (.it _h42 (.m bad (fun _h43 => have _hc44 := (i5 _h43); Exists.elim (@Tryz.c86 (B) (bad) (by omega))
     (fun _y45 ⟨_hz46,_hc47,_hc48,_hc49,_hc50⟩ => .c _hz46 (Exists.elim (@Tryz.c86 (_y45.snd.fst) (_y45.snd.snd) (by omega))
     (fun _y51 ⟨_hz52,_hc53,_hc54,_hc55,_hc56⟩ => .c _hz52 (Exists.elim (@Tryz.c87 (_y51.snd.fst) (_y51.snd.snd) (by omega))
     (fun _y57 ⟨_hz58,_hc59,_hc60,_hc61⟩ => .c _hz58 (Exists.elim (@Tryz.c86 (_y57.snd.fst) (_y57.snd.snd) (by omega)) (fun _y62 ⟨_hz63,_hc64,_hc65,_hc66,_hc67⟩ => .c _hz63 ?_))))))))
     (fun _h43 => Exists.elim (@Tryz.c86 (B) (bad) (by omega)) (fun _y68 ⟨_hz69,_hc70,_hc71,_hc72,_hc73⟩ => .c _hz69
     (SatE.pJoinE (L := loopD X.cfg (52 : FuncId) Proofs.Tryz.f52 0 26) (St.mk [(0,.tree (List.map encB b)),(1,.int .i64 (↑size : Int)),(4,.ref (.head 4 0) 0 0),(6,.ref (.head 6 0) 0 0),(7,.ref
     (.head 7 0) 0 0),(13,.int .i64 _y68.fst)] [(.head 4 0,.box (.agg [.int .i64 0,.int .i64 0,.sref (.head 4 1) 0 0,.sref (.head 4 2) 0 0]) true),(.head 4 1,.row 5 [] true true),
     (.head 4 2,.row 8 [] true true),(.head 6 0,.box (.agg [.tree (List.map encB _y68.snd.fst),.bool _y68.snd.snd]) true),(.head 7 0,.box (.agg [.int .i64 _y10.fst,.int .i64 _y18.fst,.sref
     (.head 7 1) 0 vs.length,.sref (.head 7 2) 0 0]) true),(.head 7 1,.row 5 (List.map encView vs) true true),
     (.head 7 2,.row 8 [] true true)]) (by kernel_rfl) rfl rfl (again_b (_y10.fst) (_y18.fst) (_y68.fst) (_y68.snd.fst) (_y68.snd.snd) (vs) ‹_› ‹_› (by omega) ‹_› ‹_›)))))))))) (fun _h42 => .iF _h42
     (.iF _h42 (.iF _h42 (.iF _h42 (.iF _h42 (.F (Exists.elim (@Tryz.c86 (B) (bad) (by omega)) (fun _y74 ⟨_hz75,_hc76,_hc77,_hc78,_hc79⟩ => .c _hz75
     (SatE.pJoinE (L := loopD X.cfg (52 : FuncId) Proofs.Tryz.f52 0 26) (St.mk [(0,.tree (List.map encB b)),(1,.int .i64 (↑size : Int)),(4,.ref (.head 4 0) 0 0),(6,.ref (.head 6 0) 0 0),(7,.ref
     (.head 7 0) 0 0),(13,.int .i64 _y74.fst)] [(.head 4 0,.box (.agg [.int .i64 0,.int .i64 0,.sref (.head 4 1) 0 0,.sref (.head 4 2) 0 0]) true),(.head 4 1,.row 5 [] true true),
     (.head 4 2,.row 8 [] true true),(.head 6 0,.box (.agg [.tree (List.map encB _y74.snd.fst),.bool _y74.snd.snd]) true),(.head 7 0,.box (.agg [.int .i64 _y10.fst,.int .i64 _y18.fst,.sref
     (.head 7 1) 0 vs.length,.sref (.head 7 2) 0 0]) true),(.head 7 1,.row 5 (List.map encView vs) true true),
     (.head 7 2,.row 8 [] true true)]) (by kernel_rfl) rfl rfl (again_b (_y10.fst) (_y18.fst) (_y74.fst) (_y74.snd.fst) (_y74.snd.snd) (vs) ‹_› ‹_› (by omega) ‹_› ‹_›)))))))))))
    have hle : _y62.2.1.length ≤ B.length := by omega
    have hlt : _y62.2.2 = false → _y62.2.1.length < B.length := fun h => by grind
    have hfi : _y57.1.length ≤ 5000 := by omega
    have again_e : ∀ (C : List UInt8) (bad2 : Bool) (hs : List Head) (hC : C.length ≤ B.length) (hC2 : bad2 = false → C.length < B.length) (hhs : hs.length ≤ B.length),SatE X 52 (loopD X.cfg 52 Go.Proofs.Tryz.f52 0 21 ⟨[(0,.tree (b.map encB)),(1,.int .i64 size),(4,.ref (.head 4 0) 0 0),(6,.ref (.head 6 0) 0 0),(7,.ref (.head 7 0) 0 0),(8,.int .i64 n),(9,.ref (.head 9 0) 0 0),(12,.int .i64 0)],[(.head 4 0,.box (.agg [.int .i64 0,.int .i64 0,.sref (.head 4 1) 0 0,.sref (.head 4 2) 0 0]) true),(.head 4 1,.row 5 [] true true),(.head 4 2,.row 8 [] true true),(.head 6 0,.box (.agg [.tree (C.map encB),.bool bad2]) true),(.head 7 0,.box (.agg [.int .i64 _y10.1,.int .i64 _y18.1,.sref (.head 7 1) 0 vs.length,.sref (.head 7 2) 0 0]) true),(.head 7 1,.row 5 (vs.map encView) true true),(.head 7 2,.row 8 [] true true),(.head 9 0,.box (.agg [.int .i64 _y45.1,.int .i64 _y51.1,.str _y57.1,.sref (.head 9 1) 0 hs.length,.sref (.head 9 2) 0 0]) true),(.head 9 1,.row 4 (hs.map encHead) true true),(.head 9 2,.row 1 [] true true)]⟩) (fun r => ∃ p : Gossip × Bool,r = ⟨.tuple [encGossip p.1,.bool p.2],[],[]⟩ ∧ (p.2 = true → p.1.may parse size = true) ∧ (p.2 = true → IsGoss b p.1)) := by
      intro C bad2 hs hC hC2 hhs
      refine SatE.pLoop 21 (St.mk [(0,.tree (List.map encB b)),(1,.int .i64 (↑size : Int)),(4,.ref (.head 4 0) 0 0),(6,.ref (.head 6 0) 0 0),(7,.ref (.head 7 0) 0 0),(8,.int .i64 n),(9,.ref
       (.head 9 0) 0 0),(12,.int .i64 0)] [(.head 4 0,.box (.agg [.int .i64 0,.int .i64 0,.sref (.head 4 1) 0 0,.sref (.head 4 2) 0 0]) true),(.head 4 1,.row 5 [] true true),
       (.head 4 2,.row 8 [] true true),(.head 6 0,.box (.agg [.tree (List.map encB C),.bool bad2]) true),(.head 7 0,.box (.agg [.int .i64 _y10.fst,.int .i64 _y18.fst,.sref
       (.head 7 1) 0 vs.length,.sref (.head 7 2) 0 0]) true),(.head 7 1,.row 5 (List.map encView vs) true true),(.head 7 2,.row 8 [] true true),(.head 9 0,.box
       (.agg [.int .i64 _y45.fst,.int .i64 _y51.fst,.str _y57.fst,.sref (.head 9 1) 0 hs.length,.sref (.head 9 2) 0 0]) true),(.head 9 1,.row 4 (List.map encHead hs) true true),
       (.head 9 2,.row 1 [] true true)]) (by kernel_rfl) (fun (p : Nat × List UInt8 × Bool × List Int) => ⟨[(0,.tree (b.map encB)),(1,.int .i64 size),(4,.ref (.head 4 0) 0 0),(6,.ref
       (.head 6 0) 0 0),(7,.ref (.head 7 0) 0 0),(8,.int .i64 n),(9,.ref (.head 9 0) 0 0),(12,.int .i64 p.1)],[(.head 4 0,.box (.agg [.int .i64 0,.int .i64 0,.sref (.head 4 1) 0 0,.sref
       (.head 4 2) 0 0]) true),(.head 4 1,.row 5 [] true true),(.head 4 2,.row 8 [] true true),(.head 6 0,.box (.agg [.tree (p.2.1.map encB),.bool p.2.2.1]) true),(.head 7 0,.box
       (.agg [.int .i64 _y10.1,.int .i64 _y18.1,.sref (.head 7 1) 0 vs.length,.sref (.head 7 2) 0 0]) true),(.head 7 1,.row 5 (vs.map encView) true true),(.head 7 2,.row 8 [] true true),
       (.head 9 0,.box (.agg [.int .i64 _y45.1,.int .i64 _y51.1,.str _y57.1,.sref (.head 9 1) 0 hs.length,.sref (.head 9 2) 0 p.2.2.2.length]) true),(.head 9 1,.row 4 (hs.map encHead) true true),
       (.head 9 2,.row 1 (p.2.2.2.map encI) true true)]⟩) (fun p => p.1 ≤ size ∧ p.2.1.length ≤ B.length ∧ (p.2.2.1 = false → p.2.1.length < B.length) ∧ p.2.2.2.length ≤ p.1) (fun p => size - p.1) (0,C,bad2,[]) rfl ?_ ?_
      · exact ⟨by omega,hC,hC2,by simp⟩
      · rintro ⟨k,C,bad2,es⟩ hJ again2
        obtain ⟨j1,j2,j3,j4⟩ := hJ
        simp only at j1 j2 j3 j4
        refine (.k ((↑k : Int) < (↑size : Int)) (k < size) (by simp only [Int.ofNat_lt]) (fun _h87 => .et ((↑k : Int) < (↑size : Int)) (by simp only [Int.ofNat_lt]) _h87
         (.et ((↑k : Int) < (↑size : Int)) (by simp only [Int.ofNat_lt]) _h87 (.et ((↑k : Int) < (↑size : Int)) (by simp only [Int.ofNat_lt]) _h87
         (.et ((↑k : Int) < (↑size : Int)) (by simp only [Int.ofNat_lt]) _h87 (.et ((↑k : Int) < (↑size : Int)) (by simp only [Int.ofNat_lt]) _h87 (.m bad2
         (fun _h88 => have _hc89 := (j3 _h88); Exists.elim (@Tryz.c86 (C) (bad2) (by omega)) (fun _y90 ⟨_hz91,_hc92,_hc93,_hc94,_hc95⟩ => .c _hz91 (.i ((es.length + 1) * (8 : Nat) ≤ 140737488355328)
         (fun _h96 => .k (es.length = (List.map encI es).length) (True) (by simp only [List.length_map])
         (fun _h97 => have _w98 := wI64' ((↑k : Int) + (1 : Int)); .A (St.mk [(0,.tree (List.map encB b)),(1,.int .i64 (↑size : Int)),(4,.ref (.head 4 0) 0 0),(6,.ref (.head 6 0) 0 0),(7,.ref
         (.head 7 0) 0 0),(8,.int .i64 n),(9,.ref (.head 9 0) 0 0),(12,.int .i64 (IntKind.i64.wrap ((↑k : Int) + 1)))] [(.head 4 0,.box (.agg [.int .i64 0,.int .i64 0,.sref (.head 4 1) 0 0,.sref
         (.head 4 2) 0 0]) true),(.head 4 1,.row 5 [] true true),(.head 4 2,.row 8 [] true true),(.head 6 0,.box (.agg [.tree (List.map encB _y90.snd.fst),.bool _y90.snd.snd]) true),(.head 7 0,.box
         (.agg [.int .i64 _y10.fst,.int .i64 _y18.fst,.sref (.head 7 1) 0 vs.length,.sref (.head 7 2) 0 0]) true),(.head 7 1,.row 5 (List.map encView vs) true true),(.head 7 2,.row 8 [] true true),
         (.head 9 0,.box (.agg [.int .i64 _y45.fst,.int .i64 _y51.fst,.str _y57.fst,.sref (.head 9 1) 0 hs.length,.sref (.head 9 2) 0 (es.length + 1)]) true),
         (.head 9 1,.row 4 (List.map encHead hs) true true),
         (.head 9 2,.row 1 (List.map encI es ++ [.int .i64 _y90.fst]) true true)]) (by simp [encI,_w98]) (again2 ((k + (1 : Nat),_y90.snd.fst,_y90.snd.snd,es ++ [_y90.fst])) ⟨(by dsimp only; omega),⟨(by dsimp only; omega),⟨(by dsimp only; omega),(by dsimp only; (clear again_b again again2; (simp; omega)))⟩⟩⟩ (by dsimp only; omega)))
         (fun _h97 => (_h97 trivial).elim)) (fun _h96 => False.elim (by omega))))) (fun _h88 => .i ((vs.length + 1) * (80 : Nat) ≤ 140737488355328)
         (fun _h99 => .k (vs.length = (List.map encView vs).length) (True) (by simp only [List.length_map])
         (fun _h100 => have _w101 := wI64' (n - (1 : Int)); have _w102 : List.take hs.length (List.map encHead hs) = List.map encHead hs := List.take_of_length_le (by simp); have _w103 : List.take es.length (List.map encI es) = List.map encI es := List.take_of_length_le (by simp); .A (St.mk [(0,.tree (List.map encB b)),(1,.int .i64 (↑size : Int)),(4,.ref
         (.head 4 0) 0 0),(6,.ref (.head 6 0) 0 0),(7,.ref (.head 7 0) 0 0),(8,.int .i64 (IntKind.i64.wrap (n - 1)))] [(.head 4 0,.box (.agg [.int .i64 0,.int .i64 0,.sref (.head 4 1) 0 0,.sref
         (.head 4 2) 0 0]) true),(.head 4 1,.row 5 [] true true),(.head 4 2,.row 8 [] true true),(.head 6 0,.box (.agg [.tree (List.map encB C),.bool bad2]) true),(.head 7 0,.box
         (.agg [.int .i64 _y10.fst,.int .i64 _y18.fst,.sref (.head 7 1) 0 (vs.length + 1),.sref (.head 7 2) 0 0]) true),
         (.head 7 1,.row 5 (List.map encView vs ++ [.agg [.int .i64 _y45.fst,.int .i64 _y51.fst,.str _y57.fst,.tree (List.take hs.length (List.map encHead hs)),.tree (List.take es.length (List.map encI es))]]) true true),
         (.head 7 2,.row 8 [] true true)]) (by simp [encView,_w103,_w102,_w101]) (again ((n - (1 : Int),C,bad2,vs ++ [View.mk _y45.fst _y51.fst _y57.fst hs es])) ⟨(by dsimp only; omega),⟨(by dsimp only; omega),⟨(by dsimp only; omega),⟨(by dsimp only; (clear again_b again again2; (simp; omega))),⟨(by dsimp only; (clear again_b again again2; grind)),(by dsimp only; (clear again_b again again2; (exact SmV.app i6 ⟨by simp only; omega,by simp only; omega,by simp only; omega⟩)))⟩⟩⟩⟩⟩ (by dsimp only; (clear again_b again again2; grind))))
         (fun _h100 => (_h100 trivial).elim)) (fun _h99 => False.elim (by omega))))))))) (fun _h87 => .eF ((↑k : Int) < (↑size : Int)) (by simp only [Int.ofNat_lt]) _h87
         (.eF ((↑k : Int) < (↑size : Int)) (by simp only [Int.ofNat_lt]) _h87 (.eF ((↑k : Int) < (↑size : Int)) (by simp only [Int.ofNat_lt]) _h87
         (.eF ((↑k : Int) < (↑size : Int)) (by simp only [Int.ofNat_lt]) _h87 (.eF ((↑k : Int) < (↑size : Int)) (by simp only [Int.ofNat_lt]) _h87 (.F (.i ((vs.length + 1) * (80 : Nat) ≤ 140737488355328)
         (fun _h104 => .k (vs.length = (List.map encView vs).length) (True) (by simp only [List.length_map])
         (fun _h105 => have _w106 := wI64' (n - (1 : Int)); have _w107 : List.take hs.length (List.map encHead hs) = List.map encHead hs := List.take_of_length_le (by simp); have _w108 : List.take es.length (List.map encI es) = List.map encI es := List.take_of_length_le (by simp); .A (St.mk [(0,.tree (List.map encB b)),(1,.int .i64 (↑size : Int)),(4,.ref
         (.head 4 0) 0 0),(6,.ref (.head 6 0) 0 0),(7,.ref (.head 7 0) 0 0),(8,.int .i64 (IntKind.i64.wrap (n - 1)))] [(.head 4 0,.box (.agg [.int .i64 0,.int .i64 0,.sref (.head 4 1) 0 0,.sref
         (.head 4 2) 0 0]) true),(.head 4 1,.row 5 [] true true),(.head 4 2,.row 8 [] true true),(.head 6 0,.box (.agg [.tree (List.map encB C),.bool bad2]) true),(.head 7 0,.box
         (.agg [.int .i64 _y10.fst,.int .i64 _y18.fst,.sref (.head 7 1) 0 (vs.length + 1),.sref (.head 7 2) 0 0]) true),
         (.head 7 1,.row 5 (List.map encView vs ++ [.agg [.int .i64 _y45.fst,.int .i64 _y51.fst,.str _y57.fst,.tree (List.take hs.length (List.map encHead hs)),.tree (List.take es.length (List.map encI es))]]) true true),
         (.head 7 2,.row 8 [] true true)]) (by simp [encView,_w108,_w107,_w106]) (again ((n - (1 : Int),C,bad2,vs ++ [View.mk _y45.fst _y51.fst _y57.fst hs es])) ⟨(by dsimp only; omega),⟨(by dsimp only; omega),⟨(by dsimp only; omega),⟨(by dsimp only; (clear again_b again again2; (simp; omega))),⟨(by dsimp only; (clear again_b again again2; grind)),(by dsimp only; (clear again_b again again2; (exact SmV.app i6 ⟨by simp only; omega,by simp only; omega,by simp only; omega⟩)))⟩⟩⟩⟩⟩ (by dsimp only; (clear again_b again again2; grind [Bool.toNat]))))
         (fun _h105 => (_h105 trivial).elim)) (fun _h104 => False.elim (by omega))))))))))
    refine SatE.pLoop 13 (St.mk [(0,.tree (List.map encB b)),(1,.int .i64 (↑size : Int)),(4,.ref (.head 4 0) 0 0),(6,.ref (.head 6 0) 0 0),(7,.ref (.head 7 0) 0 0),(8,.int .i64 n),(9,.ref
     (.head 9 0) 0 0),(10,.int .i64 _y62.fst)] [(.head 4 0,.box (.agg [.int .i64 0,.int .i64 0,.sref (.head 4 1) 0 0,.sref (.head 4 2) 0 0]) true),(.head 4 1,.row 5 [] true true),
     (.head 4 2,.row 8 [] true true),(.head 6 0,.box (.agg [.tree (List.map encB _y62.snd.fst),.bool _y62.snd.snd]) true),(.head 7 0,.box (.agg [.int .i64 _y10.fst,.int .i64 _y18.fst,.sref
     (.head 7 1) 0 vs.length,.sref (.head 7 2) 0 0]) true),(.head 7 1,.row 5 (List.map encView vs) true true),(.head 7 2,.row 8 [] true true),(.head 9 0,.box
     (.agg [.int .i64 _y45.fst,.int .i64 _y51.fst,.str _y57.fst,.sref (.head 9 1) 0 0,.sref (.head 9 2) 0 0]) true),(.head 9 1,.row 4 [] true true),
     (.head 9 2,.row 1 [] true true)]) (by kernel_rfl) (fun (p : Int × List UInt8 × Bool × List Head) => ⟨[(0,.tree (b.map encB)),(1,.int .i64 size),(4,.ref (.head 4 0) 0 0),(6,.ref
     (.head 6 0) 0 0),(7,.ref (.head 7 0) 0 0),(8,.int .i64 n),(9,.ref (.head 9 0) 0 0),(10,.int .i64 p.1)],[(.head 4 0,.box (.agg [.int .i64 0,.int .i64 0,.sref (.head 4 1) 0 0,.sref
     (.head 4 2) 0 0]) true),(.head 4 1,.row 5 [] true true),(.head 4 2,.row 8 [] true true),(.head 6 0,.box (.agg [.tree (p.2.1.map encB),.bool p.2.2.1]) true),(.head 7 0,.box
     (.agg [.int .i64 _y10.1,.int .i64 _y18.1,.sref (.head 7 1) 0 vs.length,.sref (.head 7 2) 0 0]) true),(.head 7 1,.row 5 (vs.map encView) true true),(.head 7 2,.row 8 [] true true),
     (.head 9 0,.box (.agg [.int .i64 _y45.1,.int .i64 _y51.1,.str _y57.1,.sref (.head 9 1) 0 p.2.2.2.length,.sref (.head 9 2) 0 0]) true),(.head 9 1,.row 4 (p.2.2.2.map encHead) true true),
     (.head 9 2,.row 1 [] true true)]⟩) (fun p => p.1 ≤ 1000000000000 ∧ -1000000000000 ≤ p.1 ∧ p.2.1.length ≤ B.length ∧ (p.2.2.1 = false → p.2.1.length + p.2.2.2.length < B.length) ∧ p.2.2.2.length ≤ B.length) (fun p => p.2.1.length + (!p.2.2.1).toNat) (_y62.1,_y62.2.1,_y62.2.2,[]) rfl ?_ ?_
    · exact ⟨by dsimp only; omega,by dsimp only; omega,hle,fun h => by have := hlt h; simpa using this,by simp⟩
    · rintro ⟨k,C,bad2,hs⟩ hJ again2
      obtain ⟨j1,j2,j3,j4,j5⟩ := hJ
      simp only at j1 j2 j3 j4 j5
      refine (.i (0 < k) (fun _h83 => .it _h83 (.it _h83 (.it _h83 (.it _h83 (.it _h83 (.m bad2 (fun _h84 => have _hc85 := (j4 _h84); Exists.elim (@Tryz.c86 (C) (bad2) (by omega))
       (fun _y86 ⟨_hz87,_hc88,_hc89,_hc90,_hc91⟩ => .c _hz87 (Exists.elim (@Tryz.c86 (_y86.snd.fst) (_y86.snd.snd) (by omega))
       (fun _y92 ⟨_hz93,_hc94,_hc95,_hc96,_hc97⟩ => .c _hz93 (Exists.elim (@Tryz.c86 (_y92.snd.fst) (_y92.snd.snd) (by omega))
       (fun _y98 ⟨_hz99,_hc100,_hc101,_hc102,_hc103⟩ => .c _hz99 (Exists.elim (@Tryz.c86 (_y98.snd.fst) (_y98.snd.snd) (by omega)) (fun _y104 ⟨_hz105,_hc106,_hc107,_hc108,_hc109⟩ => .c _hz105
       (.i ((hs.length + 1) * (32 : Nat) ≤ 140737488355328) (fun _h110 => .k (hs.length = (List.map encHead hs).length) (True) (by simp only [List.length_map])
       (fun _h111 => have _w112 := wI64' (k - (1 : Int)); .A (St.mk [(0,.tree (List.map encB b)),(1,.int .i64 (↑size : Int)),(4,.ref (.head 4 0) 0 0),(6,.ref (.head 6 0) 0 0),(7,.ref
       (.head 7 0) 0 0),(8,.int .i64 n),(9,.ref (.head 9 0) 0 0),(10,.int .i64 (IntKind.i64.wrap (k - 1)))] [(.head 4 0,.box (.agg [.int .i64 0,.int .i64 0,.sref (.head 4 1) 0 0,.sref
       (.head 4 2) 0 0]) true),(.head 4 1,.row 5 [] true true),(.head 4 2,.row 8 [] true true),(.head 6 0,.box (.agg [.tree (List.map encB _y104.snd.fst),.bool _y104.snd.snd]) true),(.head 7 0,.box
       (.agg [.int .i64 _y10.fst,.int .i64 _y18.fst,.sref (.head 7 1) 0 vs.length,.sref (.head 7 2) 0 0]) true),(.head 7 1,.row 5 (List.map encView vs) true true),(.head 7 2,.row 8 [] true true),
       (.head 9 0,.box (.agg [.int .i64 _y45.fst,.int .i64 _y51.fst,.str _y57.fst,.sref (.head 9 1) 0 (hs.length + 1),.sref (.head 9 2) 0 0]) true),
       (.head 9 1,.row 4 (List.map encHead hs ++ [.agg [.int .i64 _y86.fst,.int .i64 _y92.fst,.int .i64 _y98.fst,.int .i64 _y104.fst]]) true true),
       (.head 9 2,.row 1 [] true true)]) (by simp [encHead,_w112]) (again2 ((k - (1 : Int),_y104.snd.fst,_y104.snd.snd,hs ++ [Head.mk _y86.fst (Stamp.mk _y92.fst _y98.fst _y104.fst)])) ⟨(by dsimp only; omega),⟨(by dsimp only; omega),⟨(by dsimp only; omega),⟨(by dsimp only; (clear again_b again again_e again2; grind)),(by dsimp only; (clear again_b again again_e again2; (simp; omega)))⟩⟩⟩⟩ (by dsimp only; (clear again_b again again_e again2; grind [Bool.toNat]))))
       (fun _h111 => (_h111 trivial).elim)) (fun _h110 => False.elim (by omega)))))))))))
       (fun _h84 => SatE.pJoinE (L := loopD X.cfg (52 : FuncId) Proofs.Tryz.f52 0 21) (St.mk [(0,.tree (List.map encB b)),(1,.int .i64 (↑size : Int)),(4,.ref (.head 4 0) 0 0),(6,.ref
       (.head 6 0) 0 0),(7,.ref (.head 7 0) 0 0),(8,.int .i64 n),(9,.ref (.head 9 0) 0 0),(12,.int .i64 0)] [(.head 4 0,.box (.agg [.int .i64 0,.int .i64 0,.sref (.head 4 1) 0 0,.sref
       (.head 4 2) 0 0]) true),(.head 4 1,.row 5 [] true true),(.head 4 2,.row 8 [] true true),(.head 6 0,.box (.agg [.tree (List.map encB C),.bool bad2]) true),(.head 7 0,.box
       (.agg [.int .i64 _y10.fst,.int .i64 _y18.fst,.sref (.head 7 1) 0 vs.length,.sref (.head 7 2) 0 0]) true),(.head 7 1,.row 5 (List.map encView vs) true true),(.head 7 2,.row 8 [] true true),
       (.head 9 0,.box (.agg [.int .i64 _y45.fst,.int .i64 _y51.fst,.str _y57.fst,.sref (.head 9 1) 0 hs.length,.sref (.head 9 2) 0 0]) true),(.head 9 1,.row 4 (List.map encHead hs) true true),
       (.head 9 2,.row 1 [] true true)]) (by kernel_rfl) rfl rfl (again_e (C) (bad2) (hs) ‹_› (by (clear again_b again again_e again2; grind)) ‹_›)))))))) (fun _h83 => .iF _h83 (.iF _h83 (.iF _h83 (.iF _h83
       (.iF _h83 (.F (SatE.pJoinE (L := loopD X.cfg (52 : FuncId) Proofs.Tryz.f52 0 21) (St.mk [(0,.tree (List.map encB b)),(1,.int .i64 (↑size : Int)),(4,.ref (.head 4 0) 0 0),(6,.ref
       (.head 6 0) 0 0),(7,.ref (.head 7 0) 0 0),(8,.int .i64 n),(9,.ref (.head 9 0) 0 0),(12,.int .i64 0)] [(.head 4 0,.box (.agg [.int .i64 0,.int .i64 0,.sref (.head 4 1) 0 0,.sref
       (.head 4 2) 0 0]) true),(.head 4 1,.row 5 [] true true),(.head 4 2,.row 8 [] true true),(.head 6 0,.box (.agg [.tree (List.map encB C),.bool bad2]) true),(.head 7 0,.box
       (.agg [.int .i64 _y10.fst,.int .i64 _y18.fst,.sref (.head 7 1) 0 vs.length,.sref (.head 7 2) 0 0]) true),(.head 7 1,.row 5 (List.map encView vs) true true),(.head 7 2,.row 8 [] true true),
       (.head 9 0,.box (.agg [.int .i64 _y45.fst,.int .i64 _y51.fst,.str _y57.fst,.sref (.head 9 1) 0 hs.length,.sref (.head 9 2) 0 0]) true),(.head 9 1,.row 4 (List.map encHead hs) true true),
       (.head 9 2,.row 1 [] true true)]) (by kernel_rfl) rfl rfl (again_e (C) (bad2) (hs) ‹_› (by (clear again_b again again_e again2; grind)) ‹_›)))))))))
end Go.Ab.Tryz
