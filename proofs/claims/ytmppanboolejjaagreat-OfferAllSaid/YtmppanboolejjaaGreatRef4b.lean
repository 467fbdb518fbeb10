/- Package cardamomref4: what reads words, as plain Lean. -/
import Derived.Test.YtmppanboolejjaaGreatRef4
namespace Go.Ab.Tryz
open Go
set_option maxRecDepth 100000
set_option maxHeartbeats 4000000
theorem c139 (l : List Word) (hl : l.length ≤ 60) (t : Nat) (ht : t ≤ l.length) (e : Int) (bad : Bool) (pos : Int) (s : List UInt8) : ∃ p : Bool × Nat,X.call 139 [.ref (.inc 0) 0 0,.str s] [.box (encRd ⟨l,t,e,bad,pos⟩) true] ⟨.bool p.1,[.box (encRd ⟨l,p.2,e,bad,pos⟩) true],[]⟩ ∧ t ≤ p.2 ∧ p.2 ≤ l.length ∧ (p.1 = true → t < p.2) := by
  refine spec_ex ok Go.Proofs.Tryz.func139 ok139 ?_
  refine (.n bad (fun _h9 => .t _h9 (.t _h9 (.t _h9 (.t _h9 (.t _h9 (.t _h9 (.t _h9 (.t _h9 (.t _h9 (.t _h9 (.T (.T (.T (.T (.T (.T (.T (.T (.T (.T (.T (.T (.T (.T (.T (.T (.T (.T (.T (.T (.T (.T (.T (.T
   (.T (.T (.T (.T (.r (false,t) ⟨(by show t ≤ t; omega),⟨(by show t ≤ l.length; trivial),(by dsimp only; simp)⟩⟩))))))))))))))))))))))))))))))))))))))) (fun _h9 => .f _h9 (.f _h9 (.f _h9 (.f _h9
   (.f _h9 (.f _h9 (.f _h9 (.f _h9 (.f _h9 (.f _h9 (.k ((↑(List.map encWord l).length : Int) ≤ (↑t : Int)) (l.length ≤ t) (by simp only [List.length_map,Int.ofNat_le])
   (fun _h10 => .et ((↑(List.map encWord l).length : Int) ≤ (↑t : Int)) (by simp only [List.length_map,Int.ofNat_le]) _h10
   (.et ((↑(List.map encWord l).length : Int) ≤ (↑t : Int)) (by simp only [List.length_map,Int.ofNat_le]) _h10
   (.et ((↑(List.map encWord l).length : Int) ≤ (↑t : Int)) (by simp only [List.length_map,Int.ofNat_le]) _h10
   (.et ((↑(List.map encWord l).length : Int) ≤ (↑t : Int)) (by simp only [List.length_map,Int.ofNat_le]) _h10
   (.et ((↑(List.map encWord l).length : Int) ≤ (↑t : Int)) (by simp only [List.length_map,Int.ofNat_le]) _h10
   (.et ((↑(List.map encWord l).length : Int) ≤ (↑t : Int)) (by simp only [List.length_map,Int.ofNat_le]) _h10
   (.et ((↑(List.map encWord l).length : Int) ≤ (↑t : Int)) (by simp only [List.length_map,Int.ofNat_le]) _h10
   (.et ((↑(List.map encWord l).length : Int) ≤ (↑t : Int)) (by simp only [List.length_map,Int.ofNat_le]) _h10
   (.et ((↑(List.map encWord l).length : Int) ≤ (↑t : Int)) (by simp only [List.length_map,Int.ofNat_le]) _h10
   (.et ((↑(List.map encWord l).length : Int) ≤ (↑t : Int)) (by simp only [List.length_map,Int.ofNat_le]) _h10
   (.et ((↑(List.map encWord l).length : Int) ≤ (↑t : Int)) (by simp only [List.length_map,Int.ofNat_le]) _h10
   (.et ((↑(List.map encWord l).length : Int) ≤ (↑t : Int)) (by simp only [List.length_map,Int.ofNat_le]) _h10 (.T (.T (.T (.T (.T (.T (.T (.T (.T (.T (.T (.T (.T (.T (.T
   (.r (false,t) ⟨(by show t ≤ t; omega),⟨(by show t ≤ l.length; trivial),(by dsimp only; simp)⟩⟩))))))))))))))))))))))))))))
   (fun _h10 => .eF ((↑(List.map encWord l).length : Int) ≤ (↑t : Int)) (by simp only [List.length_map,Int.ofNat_le]) _h10
   (.eF ((↑(List.map encWord l).length : Int) ≤ (↑t : Int)) (by simp only [List.length_map,Int.ofNat_le]) _h10
   (.eF ((↑(List.map encWord l).length : Int) ≤ (↑t : Int)) (by simp only [List.length_map,Int.ofNat_le]) _h10
   (.eF ((↑(List.map encWord l).length : Int) ≤ (↑t : Int)) (by simp only [List.length_map,Int.ofNat_le]) _h10
   (.eF ((↑(List.map encWord l).length : Int) ≤ (↑t : Int)) (by simp only [List.length_map,Int.ofNat_le]) _h10
   (.eF ((↑(List.map encWord l).length : Int) ≤ (↑t : Int)) (by simp only [List.length_map,Int.ofNat_le]) _h10
   (.eF ((↑(List.map encWord l).length : Int) ≤ (↑t : Int)) (by simp only [List.length_map,Int.ofNat_le]) _h10
   (.eF ((↑(List.map encWord l).length : Int) ≤ (↑t : Int)) (by simp only [List.length_map,Int.ofNat_le]) _h10 (.T (.em encWord l t (by omega)
   (fun _x11 _hx12 => .eF ((↑(List.map encWord l).length : Int) ≤ (↑t : Int)) (by simp only [List.length_map,Int.ofNat_le]) _h10
   (.eF ((↑(List.map encWord l).length : Int) ≤ (↑t : Int)) (by simp only [List.length_map,Int.ofNat_le]) _h10
   (.eF ((↑(List.map encWord l).length : Int) ≤ (↑t : Int)) (by simp only [List.length_map,Int.ofNat_le]) _h10
   (.eF ((↑(List.map encWord l).length : Int) ≤ (↑t : Int)) (by simp only [List.length_map,Int.ofNat_le]) _h10 (.j (_x11.Kind = 3) (fun _h13 => .iu _h13 (.iu _h13 (.iu _h13 (.iu _h13 (.iu _h13 (.iu _h13
   (.iu _h13 (.iu _h13 (.iu _h13 (.iu _h13 (.iu _h13 (.iu _h13 (.iu _h13 (.T (.r (false,t) ⟨(by show t ≤ t; omega),⟨(by show t ≤ l.length; trivial),(by dsimp only; simp)⟩⟩)))))))))))))))
   (fun _h13 => .iv _h13 (.iv _h13 (.iv _h13 (.iv _h13 (.iv _h13 (.iv _h13 (.iv _h13 (.iv _h13 (.T (.eh encWord _hx12 (.iv _h13 (.iv _h13 (.iv _h13 (.iv _h13 (.iv _h13 (.j (_x11.S = s)
   (fun _h14 => .r (false,t) ⟨(by show t ≤ t; omega),⟨(by show t ≤ l.length; trivial),(by dsimp only; simp)⟩⟩) (fun _h14 => have _w15 := wI64' ((↑t : Int) + (1 : Int)); .q (Res.mk (.bool true) [.box
   (.agg [.tree (List.map encWord l),.int .i64 (IntKind.i64.wrap ((↑t : Int) + 1)),.int .i64 e,.bool bad,.int .i64 pos]) true] []) ⟨(Bool.true,t + (1 : Nat)),(by simp [encRd,_w15]),⟨(by dsimp only; omega),⟨(by dsimp only; omega),(by dsimp only; omega)⟩⟩⟩))))))))))))))))))))))))))))))))))))))))))))
theorem c132 (l : List Word) (hl : l.length ≤ 60) (t : Nat) (e : Int) (bad : Bool) (pos : Int) (i : Int) (hi : 0 ≤ i) (hi2 : i ≤ 100) : ∃ p : Int,X.call 132 [.ref (.inc 0) 0 0,.int .i64 i] [.box (encRd ⟨l,t,e,bad,pos⟩) true] ⟨.tuple [],[.box (encRd ⟨l,t,e,true,p⟩) true],[]⟩ := by
  refine Exists.imp (fun _ h => h.1) (q := fun p => X.call 132 [.ref (.inc 0) 0 0,.int .i64 i] [.box (encRd ⟨l,t,e,bad,pos⟩) true] ⟨.tuple [],[.box (encRd ⟨l,t,e,true,p⟩) true],[]⟩) (p := fun p => X.call 132 [.ref (.inc 0) 0 0,.int .i64 i] [.box (encRd ⟨l,t,e,bad,pos⟩) true] ⟨.tuple [],[.box (encRd ⟨l,t,e,true,p⟩) true],[]⟩ ∧ True) ?_
  cases bad
  · refine spec_ex ok Go.Proofs.Tryz.func132 ok132 ?_
    refine (.F (.k (i < (↑(List.map encWord l).length : Int)) (i < (↑l.length : Int)) (by simp only [List.length_map]) (fun _h10 => .it hi (.em encWord l i.toNat (by omega)
     (fun _x11 _hx12 => .r _x11.At (by trivial)))) (fun _h10 => .r e (by trivial))))
  · refine spec_ex ok Go.Proofs.Tryz.func132 ok132 ?_
    refine (.T (.r pos (by trivial)))
theorem c147 (l : List Word) (hl : l.length ≤ 60) (t : Nat) (ht : t ≤ l.length) (e : Int) (bad : Bool) (pos : Int) (n : Int) : ∃ p : Int × Nat × Bool × Int,X.call 147 [.ref (.inc 0) 0 0,.int .i64 n] [.box (encRd ⟨l,t,e,bad,pos⟩) true] ⟨.int .i64 p.1,[.box (encRd ⟨l,p.2.1,e,p.2.2.1,p.2.2.2⟩) true],[]⟩ ∧ t ≤ p.2.1 ∧ p.2.1 ≤ l.length ∧ (p.2.2.1 = false → t < p.2.1) := by
  refine spec_ex ok Go.Proofs.Tryz.func147 ok147 ?_
  refine (.n bad (fun _h9 => .r (0,t,bad,pos) ⟨(by show t ≤ t; omega),⟨(by show t ≤ l.length; trivial),(by dsimp only; (simp; omega))⟩⟩)
   (fun _h9 => .k ((↑(List.map encWord l).length : Int) ≤ (↑t : Int)) (l.length ≤ t) (by simp only [List.length_map,Int.ofNat_le])
   (fun _h10 => .et ((↑(List.map encWord l).length : Int) ≤ (↑t : Int)) (by simp only [List.length_map,Int.ofNat_le]) _h10
   (.et ((↑(List.map encWord l).length : Int) ≤ (↑t : Int)) (by simp only [List.length_map,Int.ofNat_le]) _h10
   (.et ((↑(List.map encWord l).length : Int) ≤ (↑t : Int)) (by simp only [List.length_map,Int.ofNat_le]) _h10
   (.et ((↑(List.map encWord l).length : Int) ≤ (↑t : Int)) (by simp only [List.length_map,Int.ofNat_le]) _h10
   (.et ((↑(List.map encWord l).length : Int) ≤ (↑t : Int)) (by simp only [List.length_map,Int.ofNat_le]) _h10
   (.et ((↑(List.map encWord l).length : Int) ≤ (↑t : Int)) (by simp only [List.length_map,Int.ofNat_le]) _h10
   (.et ((↑(List.map encWord l).length : Int) ≤ (↑t : Int)) (by simp only [List.length_map,Int.ofNat_le]) _h10
   (.et ((↑(List.map encWord l).length : Int) ≤ (↑t : Int)) (by simp only [List.length_map,Int.ofNat_le]) _h10
   (.et ((↑(List.map encWord l).length : Int) ≤ (↑t : Int)) (by simp only [List.length_map,Int.ofNat_le]) _h10
   (.et ((↑(List.map encWord l).length : Int) ≤ (↑t : Int)) (by simp only [List.length_map,Int.ofNat_le]) _h10
   (.et ((↑(List.map encWord l).length : Int) ≤ (↑t : Int)) (by simp only [List.length_map,Int.ofNat_le]) _h10
   (.et ((↑(List.map encWord l).length : Int) ≤ (↑t : Int)) (by simp only [List.length_map,Int.ofNat_le]) _h10 (.T (.T (.T (.T (.T (.T (.T (.T (.T (.T (.T (.T (.T (.T
   (.T (Exists.elim (@Tryz.c132 (l) ‹_› (t) (e) (bad) (pos) ((↑t : Int)) (by omega) (by omega)) (fun _y11 _hz12 => .c _hz12
   (.r (0,t,true,_y11) ⟨(by show t ≤ t; omega),⟨(by show t ≤ l.length; trivial),(by dsimp only; simp)⟩⟩))))))))))))))))))))))))))))))
   (fun _h10 => .eF ((↑(List.map encWord l).length : Int) ≤ (↑t : Int)) (by simp only [List.length_map,Int.ofNat_le]) _h10
   (.eF ((↑(List.map encWord l).length : Int) ≤ (↑t : Int)) (by simp only [List.length_map,Int.ofNat_le]) _h10
   (.eF ((↑(List.map encWord l).length : Int) ≤ (↑t : Int)) (by simp only [List.length_map,Int.ofNat_le]) _h10
   (.eF ((↑(List.map encWord l).length : Int) ≤ (↑t : Int)) (by simp only [List.length_map,Int.ofNat_le]) _h10
   (.eF ((↑(List.map encWord l).length : Int) ≤ (↑t : Int)) (by simp only [List.length_map,Int.ofNat_le]) _h10
   (.eF ((↑(List.map encWord l).length : Int) ≤ (↑t : Int)) (by simp only [List.length_map,Int.ofNat_le]) _h10
   (.eF ((↑(List.map encWord l).length : Int) ≤ (↑t : Int)) (by simp only [List.length_map,Int.ofNat_le]) _h10
   (.eF ((↑(List.map encWord l).length : Int) ≤ (↑t : Int)) (by simp only [List.length_map,Int.ofNat_le]) _h10 (.T (.em encWord l t (by omega)
   (fun _x13 _hx14 => .eF ((↑(List.map encWord l).length : Int) ≤ (↑t : Int)) (by simp only [List.length_map,Int.ofNat_le]) _h10
   (.eF ((↑(List.map encWord l).length : Int) ≤ (↑t : Int)) (by simp only [List.length_map,Int.ofNat_le]) _h10
   (.eF ((↑(List.map encWord l).length : Int) ≤ (↑t : Int)) (by simp only [List.length_map,Int.ofNat_le]) _h10
   (.eF ((↑(List.map encWord l).length : Int) ≤ (↑t : Int)) (by simp only [List.length_map,Int.ofNat_le]) _h10 (.j (_x13.Kind = 2) (fun _h15 => .iu _h15 (.iu _h15 (.iu _h15 (.iu _h15 (.iu _h15 (.iu _h15
   (.iu _h15 (.iu _h15 (.iu _h15 (.iu _h15 (.iu _h15 (.iu _h15 (.iu _h15 (.T (Exists.elim (@Tryz.c132 (l) ‹_› (t) (e) (bad) (pos) ((↑t : Int)) (by omega) (by omega)) (fun _y16 _hz17 => .c _hz17
   (.r (0,t,true,_y16) ⟨(by show t ≤ t; omega),⟨(by show t ≤ l.length; trivial),(by dsimp only; simp)⟩⟩))))))))))))))))) (fun _h15 => .iv _h15 (.iv _h15 (.iv _h15 (.iv _h15 (.iv _h15 (.iv _h15
   (.iv _h15 (.iv _h15 (.T (.eh encWord _hx14 (.iv _h15 (.iv _h15 (.iv _h15 (.iv _h15 (.iv _h15 (.i (n ≤ _x13.N)
   (fun _h18 => Exists.elim (@Tryz.c132 (l) ‹_› (t) (e) (bad) (pos) ((↑t : Int)) (by omega) (by omega)) (fun _y19 _hz20 => .c _hz20
   (.r (0,t,true,_y19) ⟨(by show t ≤ t; omega),⟨(by show t ≤ l.length; trivial),(by dsimp only; simp)⟩⟩)))
   (fun _h18 => have _w21 := wI64' ((↑t : Int) + (1 : Int)); have _w22 := wI64' ((↑t : Int) + (1 : Int) - (1 : Int)); .k (0 ≤ IntKind.i64.wrap (IntKind.i64.wrap ((↑t : Int) + 1) - 1)) (0 ≤ (↑t : Int) + 1 - 1) (by simp only [_w22,_w21])
   (fun _h23 => .eM encWord l ((IntKind.i64.wrap (IntKind.i64.wrap ((↑t : Int) + 1) - 1)).toNat) (((↑t : Int) + 1 - 1).toNat) (by simp only [_w22,_w21]) (by omega) (fun _x24 _hx25 => .q (Res.mk
   (.int .i64 _x24.N) [.box
   (.agg [.tree (List.map encWord l),.int .i64 (IntKind.i64.wrap ((↑t : Int) + 1)),.int .i64 e,.bool bad,.int .i64 pos]) true] []) ⟨(_x24.N,t + (1 : Nat),bad,pos),(by simp [encRd,_w21]),⟨(by dsimp only; omega),⟨(by dsimp only; omega),(by dsimp only; omega)⟩⟩⟩))
   (fun _h23 => False.elim (by omega))))))))))))))))))))))))))))))))))))
theorem c146 (l : List Word) (hl : l.length ≤ 60) (t : Nat) (ht : t ≤ l.length) (e : Int) (bad : Bool) (pos : Int) : ∃ p : Flt × Nat × Bool × Int,X.call 146 [.ref (.inc 0) 0 0] [.box (encRd ⟨l,t,e,bad,pos⟩) true] ⟨encFlt p.1,[.box (encRd ⟨l,p.2.1,e,p.2.2.1,p.2.2.2⟩) true],[]⟩ ∧ t ≤ p.2.1 ∧ p.2.1 ≤ l.length ∧ p.1.ok ∧ p.1.short ∧ p.1.deep ≤ p.2.1 - t + 1 := by
  refine spec_ex ok Go.Proofs.Tryz.func146 ok146 ?_
  refine (Exists.elim (@Tryz.c147 (l) ‹_› (t) ‹_› (e) (bad) (pos) ((4 : Int)))
   (fun _y8 ⟨_hz9,_hc10,_hc11,_hc12⟩ => .c _hz9 (Exists.elim (@Tryz.c139 (l) ‹_› (_y8.snd.fst) ‹_› (e) (_y8.snd.snd.fst) (_y8.snd.snd.snd) ([(61 : UInt8)]))
   (fun _y13 ⟨_hz14,_hc15,_hc16,_hc17⟩ => .c _hz14 (.n _y13.fst
   (fun _h18 => have _hc19 := (_hc17 _h18); Exists.elim (@Tryz.c147 (l) ‹_› (_y13.snd) ‹_› (e) (_y8.snd.snd.fst) (_y8.snd.snd.snd) ((100 : Int))) (fun _y20 ⟨_hz21,_hc22,_hc23,_hc24⟩ => .c _hz21
   (.r (Flt.leaf 2 _y8.fst _y20.fst _y20.fst [],_y20.snd.fst,_y20.snd.snd.fst,_y20.snd.snd.snd) ⟨(by dsimp only; omega),⟨(by dsimp only; trivial),⟨(by dsimp only; trivial),⟨(by dsimp only; (simp [Flt.short]; done)),(by dsimp only; (simp [Flt.deep]; done))⟩⟩⟩⟩)))
   (fun _h18 => Exists.elim (@Tryz.c139 (l) ‹_› (_y13.snd) ‹_› (e) (_y8.snd.snd.fst) (_y8.snd.snd.snd) ([(58 : UInt8)])) (fun _y25 ⟨_hz26,_hc27,_hc28,_hc29⟩ => .c _hz26 (.n _y25.fst
   (fun _h30 => have _hc31 := (_hc29 _h30); Exists.elim (@Tryz.c147 (l) ‹_› (_y25.snd) ‹_› (e) (_y8.snd.snd.fst) (_y8.snd.snd.snd) ((100 : Int)))
   (fun _y32 ⟨_hz33,_hc34,_hc35,_hc36⟩ => .c _hz33 (Exists.elim (@Tryz.c139 (l) ‹_› (_y32.snd.fst) ‹_› (e) (_y32.snd.snd.fst) (_y32.snd.snd.snd) ([(45 : UInt8)]))
   (fun _y37 ⟨_hz38,_hc39,_hc40,_hc41⟩ => .c _hz38 (.m _y37.fst
   (fun _h42 => Exists.elim (@Tryz.c132 (l) ‹_› (_y37.snd) (e) (_y32.snd.snd.fst) (_y32.snd.snd.snd) ((↑_y37.snd : Int)) (by omega) (by omega))
   (fun _y43 _hz44 => .c _hz44 (Exists.elim (@Tryz.c147 (l) ‹_› (_y37.snd) ‹_› (e) (Bool.true) (_y43) ((100 : Int))) (fun _y45 ⟨_hz46,_hc47,_hc48,_hc49⟩ => .c _hz46 (.m _y45.snd.snd.fst
   (fun _h50 => have _hc51 := (_hc49 _h50); .y _h50 (.y _h50 (.y _h50 (.y _h50 (.y _h50 (.i (_y45.fst < _y32.fst)
   (fun _h52 => have _w53 := wI64' ((↑_y45.snd.fst : Int) - (1 : Int)); Exists.elim (@Tryz.c132 (l) ‹_› (_y45.snd.fst) (e) (_y45.snd.snd.fst) (_y45.snd.snd.snd) ((↑_y45.snd.fst : Int) - (1 : Int)) (by omega) (by omega))
   (fun _y54 _hz55 => .C ([.ref (.inc 0) 0 0,.int .i64 (IntKind.i64.wrap ((↑_y45.snd.fst : Int) - 1))]) ([.box
   (.agg [.tree (List.map encWord l),.int .i64 (↑_y45.snd.fst : Int),.int .i64 e,.bool _y45.snd.snd.fst,.int .i64 _y45.snd.snd.snd]) true]) (by simp only [_w53]) rfl _hz55
   (.r (Flt.leaf 3 _y8.fst _y32.fst _y45.fst [],_y45.snd.fst,true,_y54) ⟨(by dsimp only; omega),⟨(by dsimp only; trivial),⟨(by dsimp only; trivial),⟨(by dsimp only; (simp [Flt.short]; done)),(by dsimp only; (simp [Flt.deep]; done))⟩⟩⟩⟩)))
   (fun _h52 => .r (Flt.leaf 3 _y8.fst _y32.fst _y45.fst [],_y45.snd.fst,_y45.snd.snd.fst,_y45.snd.snd.snd) ⟨(by dsimp only; omega),⟨(by dsimp only; trivial),⟨(by dsimp only; trivial),⟨(by dsimp only; (simp [Flt.short]; done)),(by dsimp only; (simp [Flt.deep]; done))⟩⟩⟩⟩)))))))
   (fun _h50 => .x _h50 (.x _h50 (.x _h50 (.x _h50 (.x _h50 (.F
   (.r (Flt.leaf 3 _y8.fst _y32.fst _y45.fst [],_y45.snd.fst,_y45.snd.snd.fst,_y45.snd.snd.snd) ⟨(by dsimp only; omega),⟨(by dsimp only; trivial),⟨(by dsimp only; trivial),⟨(by dsimp only; (simp [Flt.short]; done)),(by dsimp only; (simp [Flt.deep]; done))⟩⟩⟩⟩))))))))))))
   (fun _h42 => have _hc56 := (_hc41 _h42); Exists.elim (@Tryz.c147 (l) ‹_› (_y37.snd) ‹_› (e) (_y32.snd.snd.fst) (_y32.snd.snd.snd) ((100 : Int))) (fun _y57 ⟨_hz58,_hc59,_hc60,_hc61⟩ => .c _hz58
   (.m _y57.snd.snd.fst (fun _h62 => have _hc63 := (_hc61 _h62); .y _h62 (.y _h62 (.y _h62 (.y _h62 (.y _h62 (.i (_y57.fst < _y32.fst)
   (fun _h64 => have _w65 := wI64' ((↑_y57.snd.fst : Int) - (1 : Int)); Exists.elim (@Tryz.c132 (l) ‹_› (_y57.snd.fst) (e) (_y57.snd.snd.fst) (_y57.snd.snd.snd) ((↑_y57.snd.fst : Int) - (1 : Int)) (by omega) (by omega))
   (fun _y66 _hz67 => .C ([.ref (.inc 0) 0 0,.int .i64 (IntKind.i64.wrap ((↑_y57.snd.fst : Int) - 1))]) ([.box
   (.agg [.tree (List.map encWord l),.int .i64 (↑_y57.snd.fst : Int),.int .i64 e,.bool _y57.snd.snd.fst,.int .i64 _y57.snd.snd.snd]) true]) (by simp only [_w65]) rfl _hz67
   (.r (Flt.leaf 3 _y8.fst _y32.fst _y57.fst [],_y57.snd.fst,true,_y66) ⟨(by dsimp only; omega),⟨(by dsimp only; trivial),⟨(by dsimp only; trivial),⟨(by dsimp only; (simp [Flt.short]; done)),(by dsimp only; (simp [Flt.deep]; done))⟩⟩⟩⟩)))
   (fun _h64 => .r (Flt.leaf 3 _y8.fst _y32.fst _y57.fst [],_y57.snd.fst,_y57.snd.snd.fst,_y57.snd.snd.snd) ⟨(by dsimp only; omega),⟨(by dsimp only; trivial),⟨(by dsimp only; trivial),⟨(by dsimp only; (simp [Flt.short]; done)),(by dsimp only; (simp [Flt.deep]; done))⟩⟩⟩⟩)))))))
   (fun _h62 => .x _h62 (.x _h62 (.x _h62 (.x _h62 (.x _h62 (.F
   (.r (Flt.leaf 3 _y8.fst _y32.fst _y57.fst [],_y57.snd.fst,_y57.snd.snd.fst,_y57.snd.snd.snd) ⟨(by dsimp only; omega),⟨(by dsimp only; trivial),⟨(by dsimp only; trivial),⟨(by dsimp only; (simp [Flt.short]; done)),(by dsimp only; (simp [Flt.deep]; done))⟩⟩⟩⟩)))))))))))))))
   (fun _h30 => Exists.elim (@Tryz.c132 (l) ‹_› (_y25.snd) (e) (_y8.snd.snd.fst) (_y8.snd.snd.snd) ((↑_y25.snd : Int)) (by omega) (by omega)) (fun _y68 _hz69 => .c _hz69
   (.r (Flt.leaf 0 _y8.fst 0 0 [],_y25.snd,true,_y68) ⟨(by show t ≤ _y25.snd; omega),⟨(by dsimp only; trivial),⟨(by dsimp only; trivial),⟨(by dsimp only; (simp [Flt.short]; done)),(by dsimp only; (simp [Flt.deep]; done))⟩⟩⟩⟩)))))))))))
end Go.Ab.Tryz
