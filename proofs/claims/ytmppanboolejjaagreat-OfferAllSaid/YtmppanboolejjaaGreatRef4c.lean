/- Package cardamomref4: filters out of words, as plain Lean. -/
import Derived.Test.YtmppanboolejjaaGreatRef4b
namespace Go.Ab.Tryz
open Go
set_option maxRecDepth 100000
set_option maxHeartbeats 4000000
def RdAt (f : Nat) (l : List Word) (e : Int) (t : Nat) (bad : Bool) (pos : Int) : Prop :=
  ∃ p : Flt × Nat × Bool × Int,X.call f [.ref (.inc 0) 0 0] [.box (encRd ⟨l,t,e,bad,pos⟩) true] ⟨encFlt p.1,[.box (encRd ⟨l,p.2.1,e,p.2.2.1,p.2.2.2⟩) true],[]⟩ ∧ t ≤ p.2.1 ∧ p.2.1 ≤ l.length ∧ p.1.ok ∧ p.1.short ∧ p.1.deep ≤ p.2.1 - t + 1
theorem one_deep {a : Flt} {n : Nat} (h : a.deep + 1 ≤ n) : (Flt.one a).deep ≤ n := by simp only [Flt.deep]; omega
theorem and_ok {a b : Flt} (h : a.ok) (h' : b.ok) : (Flt.two 5 a b).ok := ⟨.inl rfl,h,h'⟩
theorem or_ok {a b : Flt} (h : a.ok) (h' : b.ok) : (Flt.two 6 a b).ok := ⟨.inr rfl,h,h'⟩
theorem two_short {o : Int} {a b : Flt} (h : a.short) (h' : b.short) : (Flt.two o a b).short := ⟨h,h'⟩
theorem not_step (l : List Word) (hl : l.length ≤ 60) (hw : ∀ w ∈ l,w.S.length ≤ 1000) (e : Int) (t : Nat) (bad : Bool) (pos : Int) (ht : t ≤ l.length)
    (jN : ∀ t' bad pos,t' ≤ l.length → t < t' → RdAt 144 l e t' bad pos)
    (jO : ∀ t' bad pos,t' ≤ l.length → t < t' → RdAt 131 l e t' bad pos) : RdAt 144 l e t bad pos := by
  unfold RdAt at jN jO ⊢
  refine spec_ex ok Go.Proofs.Tryz.func144 ok144 ?_
  refine (Exists.elim (@Tryz.c139 (l) ‹_› (t) ‹_› (e) (bad) (pos) ([(33 : UInt8)])) (fun _y11 ⟨_hz12,_hc13,_hc14,_hc15⟩ => .c _hz12 (.n _y11.fst
   (fun _h16 => have _hc17 := (_hc15 _h16); Exists.elim (@jN (_y11.snd) (bad) (pos) ‹_› ‹_›) (fun _y18 ⟨_hz19,_hc20,_hc21,_hc22,_hc23,_hc24⟩ => .c _hz19
   (.r (_y18.fst.one,_y18.snd.fst,_y18.snd.snd.fst,_y18.snd.snd.snd) ⟨(by dsimp only; omega),⟨(by dsimp only; trivial),⟨(by dsimp only; trivial),⟨(by dsimp only; trivial),(by dsimp only; (refine one_deep ?_; omega))⟩⟩⟩⟩)))
   (fun _h16 => Exists.elim (@Tryz.c139 (l) ‹_› (_y11.snd) ‹_› (e) (bad) (pos) ([(40 : UInt8)])) (fun _y25 ⟨_hz26,_hc27,_hc28,_hc29⟩ => .c _hz26 (.n _y25.fst
   (fun _h30 => have _hc31 := (_hc29 _h30); Exists.elim (@jO (_y25.snd) (bad) (pos) ‹_› (by omega))
   (fun _y32 ⟨_hz33,_hc34,_hc35,_hc36,_hc37,_hc38⟩ => .c _hz33 (Exists.elim (@Tryz.c139 (l) ‹_› (_y32.snd.fst) ‹_› (e) (_y32.snd.snd.fst) (_y32.snd.snd.snd) ([(41 : UInt8)]))
   (fun _y39 ⟨_hz40,_hc41,_hc42,_hc43⟩ => .c _hz40 (.m _y39.fst
   (fun _h44 => Exists.elim (@Tryz.c132 (l) ‹_› (_y39.snd) (e) (_y32.snd.snd.fst) (_y32.snd.snd.snd) ((↑_y39.snd : Int)) (by omega) (by omega)) (fun _y45 _hz46 => .c _hz46
   (.r (_y32.fst,_y39.snd,true,_y45) ⟨(by show t ≤ _y39.snd; omega),⟨(by dsimp only; trivial),⟨(by show _y32.fst.ok; trivial),⟨(by dsimp only; trivial),(by dsimp only; omega)⟩⟩⟩⟩)))
   (fun _h44 => have _hc47 := (_hc43 _h44); .r (_y32.fst,_y39.snd,_y32.snd.snd.fst,_y32.snd.snd.snd) ⟨(by show t ≤ _y39.snd; omega),⟨(by dsimp only; trivial),⟨(by show _y32.fst.ok; trivial),⟨(by dsimp only; trivial),(by dsimp only; omega)⟩⟩⟩⟩))))))
   (fun _h30 => Exists.elim (@Tryz.c139 (l) ‹_› (_y25.snd) ‹_› (e) (bad) (pos) ([(42 : UInt8)])) (fun _y48 ⟨_hz49,_hc50,_hc51,_hc52⟩ => .c _hz49 (.n _y48.fst
   (fun _h53 => have _hc54 := (_hc52 _h53); .r (Flt.leaf 1 0 0 0 [],_y48.snd,bad,pos) ⟨(by show t ≤ _y48.snd; omega),⟨(by dsimp only; trivial),⟨(by dsimp only; trivial),⟨(by dsimp only; (simp [Flt.short]; done)),(by show (1 : Nat) ≤ _y48.snd - t + (1 : Nat); omega)⟩⟩⟩⟩)
   (fun _h53 => Exists.elim (@Tryz.c139 (l) ‹_› (_y48.snd) ‹_› (e) (bad) (pos) ([(94 : UInt8)])) (fun _y55 ⟨_hz56,_hc57,_hc58,_hc59⟩ => .c _hz56 (.n _y55.fst
   (fun _h60 => have _hc61 := (_hc59 _h60); .k ((↑(List.map encWord l).length : Int) ≤ (↑_y55.snd : Int)) (l.length ≤ _y55.snd) (by simp only [List.length_map,Int.ofNat_le])
   (fun _h62 => .et ((↑(List.map encWord l).length : Int) ≤ (↑_y55.snd : Int)) (by simp only [List.length_map,Int.ofNat_le]) _h62
   (.et ((↑(List.map encWord l).length : Int) ≤ (↑_y55.snd : Int)) (by simp only [List.length_map,Int.ofNat_le]) _h62
   (.et ((↑(List.map encWord l).length : Int) ≤ (↑_y55.snd : Int)) (by simp only [List.length_map,Int.ofNat_le]) _h62
   (.et ((↑(List.map encWord l).length : Int) ≤ (↑_y55.snd : Int)) (by simp only [List.length_map,Int.ofNat_le]) _h62
   (.et ((↑(List.map encWord l).length : Int) ≤ (↑_y55.snd : Int)) (by simp only [List.length_map,Int.ofNat_le]) _h62
   (.et ((↑(List.map encWord l).length : Int) ≤ (↑_y55.snd : Int)) (by simp only [List.length_map,Int.ofNat_le]) _h62
   (.et ((↑(List.map encWord l).length : Int) ≤ (↑_y55.snd : Int)) (by simp only [List.length_map,Int.ofNat_le]) _h62
   (.et ((↑(List.map encWord l).length : Int) ≤ (↑_y55.snd : Int)) (by simp only [List.length_map,Int.ofNat_le]) _h62
   (.et ((↑(List.map encWord l).length : Int) ≤ (↑_y55.snd : Int)) (by simp only [List.length_map,Int.ofNat_le]) _h62
   (.et ((↑(List.map encWord l).length : Int) ≤ (↑_y55.snd : Int)) (by simp only [List.length_map,Int.ofNat_le]) _h62
   (.et ((↑(List.map encWord l).length : Int) ≤ (↑_y55.snd : Int)) (by simp only [List.length_map,Int.ofNat_le]) _h62
   (.et ((↑(List.map encWord l).length : Int) ≤ (↑_y55.snd : Int)) (by simp only [List.length_map,Int.ofNat_le]) _h62
   (.T (Exists.elim (@Tryz.c132 (l) ‹_› (_y55.snd) (e) (bad) (pos) ((↑_y55.snd : Int)) (by omega) (by omega)) (fun _y63 _hz64 => .c _hz64
   (.r (Flt.leaf 0 0 0 0 [],_y55.snd,true,_y63) ⟨(by show t ≤ _y55.snd; omega),⟨(by dsimp only; trivial),⟨(by dsimp only; trivial),⟨(by dsimp only; (simp [Flt.short]; done)),(by show (1 : Nat) ≤ _y55.snd - t + (1 : Nat); omega)⟩⟩⟩⟩))))))))))))))))
   (fun _h62 => .eF ((↑(List.map encWord l).length : Int) ≤ (↑_y55.snd : Int)) (by simp only [List.length_map,Int.ofNat_le]) _h62
   (.eF ((↑(List.map encWord l).length : Int) ≤ (↑_y55.snd : Int)) (by simp only [List.length_map,Int.ofNat_le]) _h62
   (.eF ((↑(List.map encWord l).length : Int) ≤ (↑_y55.snd : Int)) (by simp only [List.length_map,Int.ofNat_le]) _h62
   (.eF ((↑(List.map encWord l).length : Int) ≤ (↑_y55.snd : Int)) (by simp only [List.length_map,Int.ofNat_le]) _h62
   (.eF ((↑(List.map encWord l).length : Int) ≤ (↑_y55.snd : Int)) (by simp only [List.length_map,Int.ofNat_le]) _h62
   (.eF ((↑(List.map encWord l).length : Int) ≤ (↑_y55.snd : Int)) (by simp only [List.length_map,Int.ofNat_le]) _h62
   (.eF ((↑(List.map encWord l).length : Int) ≤ (↑_y55.snd : Int)) (by simp only [List.length_map,Int.ofNat_le]) _h62
   (.eF ((↑(List.map encWord l).length : Int) ≤ (↑_y55.snd : Int)) (by simp only [List.length_map,Int.ofNat_le]) _h62 (.T (.em encWord l _y55.snd (by omega)
   (fun _x65 _hx66 => have _hc67 := (hw _x65 (List.mem_of_getElem? _hx66)); .eF ((↑(List.map encWord l).length : Int) ≤ (↑_y55.snd : Int)) (by simp only [List.length_map,Int.ofNat_le]) _h62
   (.eF ((↑(List.map encWord l).length : Int) ≤ (↑_y55.snd : Int)) (by simp only [List.length_map,Int.ofNat_le]) _h62
   (.eF ((↑(List.map encWord l).length : Int) ≤ (↑_y55.snd : Int)) (by simp only [List.length_map,Int.ofNat_le]) _h62
   (.eF ((↑(List.map encWord l).length : Int) ≤ (↑_y55.snd : Int)) (by simp only [List.length_map,Int.ofNat_le]) _h62 (.j (_x65.Kind = 1)
   (fun _h68 => Exists.elim (@Tryz.c132 (l) ‹_› (_y55.snd) (e) (bad) (pos) ((↑_y55.snd : Int)) (by omega) (by omega)) (fun _y69 _hz70 => .c _hz70
   (.r (Flt.leaf 0 0 0 0 [],_y55.snd,true,_y69) ⟨(by show t ≤ _y55.snd; omega),⟨(by dsimp only; trivial),⟨(by dsimp only; trivial),⟨(by dsimp only; (simp [Flt.short]; done)),(by show (1 : Nat) ≤ _y55.snd - t + (1 : Nat); omega)⟩⟩⟩⟩)))
   (fun _h68 => have _w71 := wI64' ((↑_y55.snd : Int) + (1 : Int)); have _w72 := wI64' ((↑_y55.snd : Int) + (1 : Int) - (1 : Int)); .k (0 ≤ IntKind.i64.wrap (IntKind.i64.wrap ((↑_y55.snd : Int) + 1) - 1)) (0 ≤ (↑_y55.snd : Int) + 1 - 1) (by simp only [_w72,_w71])
   (fun _h73 => .eM encWord l ((IntKind.i64.wrap (IntKind.i64.wrap ((↑_y55.snd : Int) + 1) - 1)).toNat) (((↑_y55.snd : Int) + 1 - 1).toNat) (by simp only [_w72,_w71]) (by omega)
   (fun _x74 _hx75 => have _hc76 := (hw _x74 (List.mem_of_getElem? _hx75)); .q (Res.mk (.agg [.int .i64 4,.int .i64 0,.int .i64 0,.int .i64 0,.str _x74.S,.tree []]) [.box
   (.agg [.tree (List.map encWord l),.int .i64 (IntKind.i64.wrap ((↑_y55.snd : Int) + 1)),.int .i64 e,.bool bad,.int .i64 pos]) true] []) ⟨(Flt.leaf (4 : Int) (0 : Int) (0 : Int) (0 : Int) _x74.S,_y55.snd + (1 : Nat),bad,pos),(by simp [encRd,encFlt_leaf,_w71]),⟨(by dsimp only; omega),⟨(by dsimp only; omega),⟨(by dsimp only; trivial),⟨(by dsimp only; (have := hw _ (List.mem_of_getElem? ‹_›); simp [Flt.short]; omega)),(by dsimp only; (simp [Flt.deep]; done))⟩⟩⟩⟩⟩))
   (fun _h73 => False.elim (by omega))))))))))))))))))) (fun _h60 => Exists.elim (@Tryz.c139 (l) ‹_› (_y55.snd) ‹_› (e) (bad) (pos) ([(64 : UInt8)])) (fun _y77 ⟨_hz78,_hc79,_hc80,_hc81⟩ => .c _hz78
   (.n _y77.fst (fun _h82 => have _hc83 := (_hc81 _h82); Exists.elim (@Tryz.c146 (l) ‹_› (_y77.snd) ‹_› (e) (bad) (pos)) (fun _y84 ⟨_hz85,_hc86,_hc87,_hc88,_hc89,_hc90⟩ => .c _hz85
   (.r (_y84.fst,_y84.snd.fst,_y84.snd.snd.fst,_y84.snd.snd.snd) ⟨(by dsimp only; omega),⟨(by dsimp only; trivial),⟨(by show _y84.fst.ok; trivial),⟨(by dsimp only; trivial),(by dsimp only; omega)⟩⟩⟩⟩)))
   (fun _h82 => Exists.elim (@Tryz.c132 (l) ‹_› (_y77.snd) (e) (bad) (pos) ((↑_y77.snd : Int)) (by omega) (by omega)) (fun _y91 _hz92 => .c _hz92
   (.r (Flt.leaf 0 0 0 0 [],_y77.snd,true,_y91) ⟨(by show t ≤ _y77.snd; omega),⟨(by dsimp only; trivial),⟨(by dsimp only; trivial),⟨(by dsimp only; (simp [Flt.short]; done)),(by show (1 : Nat) ≤ _y77.snd - t + (1 : Nat); omega)⟩⟩⟩⟩))))))))))))))))))
theorem and_step (l : List Word) (hl : l.length ≤ 60) (e : Int) (t : Nat) (bad : Bool) (pos : Int) (ht : t ≤ l.length)
    (jN : ∀ t' bad pos,t' ≤ l.length → t ≤ t' → RdAt 144 l e t' bad pos) : RdAt 138 l e t bad pos := by
  unfold RdAt at jN ⊢
  refine spec_ex ok Go.Proofs.Tryz.func138 ok138 ?_
  refine (Exists.elim (@jN (t) (bad) (pos) ‹_› (by omega)) (fun _y9 ⟨_hz10,_hc11,_hc12,_hc13,_hc14,_hc15⟩ => .c _hz10 ?_))
  refine SatE.pUnroll 2 (St.mk [(0,.ref (.inc 0) 0 0),(2,.ref (.head 2 0) 0 0),(3,.ref (.head 3 0) 0 0)] [(.inc 0,.box
   (.agg [.tree (List.map encWord l),.int .i64 (↑_y9.snd.fst : Int),.int .i64 e,.bool _y9.snd.snd.fst,.int .i64 _y9.snd.snd.snd]) true),(.head 2 0,.box
   (.agg [.int .i64 0,.int .i64 0,.int .i64 0,.int .i64 0,.str [],.nils]) true),(.head 3 0,.box (encFlt _y9.fst) true)]) (by kernel_rfl) ?_
  refine (Exists.elim (@Tryz.c139 (l) ‹_› (_y9.snd.fst) ‹_› (e) (_y9.snd.snd.fst) (_y9.snd.snd.snd) ([(38 : UInt8)])) (fun _y16 ⟨_hz17,_hc18,_hc19,_hc20⟩ => .c _hz17 (.n _y16.fst
   (fun _h21 => have _hc22 := (_hc20 _h21); Exists.elim (@jN (_y16.snd) (_y9.snd.snd.fst) (_y9.snd.snd.snd) ‹_› (by omega)) (fun _y23 ⟨_hz24,_hc25,_hc26,_hc27,_hc28,_hc29⟩ => .c _hz24 ?_))
   (fun _h21 => .r (_y9.fst,_y16.snd,_y9.snd.snd.fst,_y9.snd.snd.snd) ⟨(by show t ≤ _y16.snd; omega),⟨(by dsimp only; trivial),⟨(by show _y9.fst.ok; trivial),⟨(by show _y9.fst.short; trivial),(by dsimp only; omega)⟩⟩⟩⟩))))
  refine SatE.pLoop 2 (St.mk [(0,.ref (.inc 0) 0 0),(2,.ref (.head 2 0) 0 0),(3,.ref (.head 3 0) 0 0)] [(.inc 0,.box
   (.agg [.tree (List.map encWord l),.int .i64 (↑_y23.snd.fst : Int),.int .i64 e,.bool _y23.snd.snd.fst,.int .i64 _y23.snd.snd.snd]) true),(.head 2 0,.box
   (.agg [.int .i64 0,.int .i64 0,.int .i64 0,.int .i64 0,.str [],.nils]) true),(.head 3 0,.box (.agg [.int .i64 5,.int .i64 0,.int .i64 0,.int .i64 0,.str [],.sref (.head 3 1) 0 2]) true),
   (.head 3 1,.row 6 [encFlt _y9.fst,encFlt _y23.fst] true true)]) (by kernel_rfl) (fun (p : Flt × Flt × Nat × Bool × Int) => ⟨[(0,.ref (.inc 0) 0 0),(2,.ref (.head 2 0) 0 0),(3,.ref
   (.head 3 0) 0 0)],[(.inc 0,.box (encRd ⟨l,p.2.2.1,e,p.2.2.2.1,p.2.2.2.2⟩) true),(.head 2 0,.box (.agg [.int .i64 0,.int .i64 0,.int .i64 0,.int .i64 0,.str [],.nils]) true),
   (.head 3 0,.box (.agg [.int .i64 5,.int .i64 0,.int .i64 0,.int .i64 0,.str [],.sref (.head 3 1) 0 2]) true),
   (.head 3 1,.row 6 [encFlt p.1,encFlt p.2.1] true true)]⟩) (fun p => t ≤ p.2.2.1 ∧ p.2.2.1 ≤ l.length ∧ p.1.ok ∧ p.1.short ∧ p.1.deep + 1 ≤ p.2.2.1 - t + 1 ∧ p.2.1.ok ∧ p.2.1.short ∧ p.2.1.deep + 1 ≤ p.2.2.1 - t + 1) (fun p => l.length - p.2.2.1) (_y9.1,_y23.1,_y23.2.1,_y23.2.2.1,_y23.2.2.2) rfl ?_ ?_
  · exact ⟨by dsimp only; omega,by dsimp only; omega,by assumption,by assumption,by dsimp only; omega,by assumption,by assumption,by dsimp only; omega⟩
  · rintro ⟨f,g,t',bad',pos'⟩ hI again
    obtain ⟨h1,h2,h3,h4,h5,h6,h7,h8⟩ := hI
    simp only at h1 h2 h3 h4 h5 h6 h7 h8
    refine (Exists.elim (@Tryz.c139 (l) ‹_› (t') ‹_› (e) (bad') (pos') ([(38 : UInt8)])) (fun _y45 ⟨_hz46,_hc47,_hc48,_hc49⟩ => .c _hz46 (.n _y45.fst
     (fun _h50 => have _hc51 := (_hc49 _h50); Exists.elim (@jN (_y45.snd) (bad') (pos') ‹_› (by omega)) (fun _y52 ⟨_hz53,_hc54,_hc55,_hc56,_hc57,_hc58⟩ => .c _hz53
     (.a (again ((Flt.two (5 : Int) f g,_y52.fst,_y52.snd.fst,_y52.snd.snd.fst,_y52.snd.snd.snd)) ⟨(by dsimp only; omega),⟨(by dsimp only; omega),⟨(by dsimp only; (clear again; (refine and_ok ?_ ?_ <;> assumption))),⟨(by dsimp only; (clear again; (refine two_short ?_ ?_ <;> assumption))),⟨(by dsimp only; (clear again; (simp only [Flt.deep]; omega))),⟨(by show _y52.fst.ok; omega),⟨(by dsimp only; omega),(by dsimp only; omega)⟩⟩⟩⟩⟩⟩⟩ (by dsimp only; omega)))))
     (fun _h50 => .r (Flt.two 5 f g,_y45.snd,bad',pos') ⟨(by show t ≤ _y45.snd; omega),⟨(by dsimp only; (clear again; trivial)),⟨(by dsimp only; (clear again; trivial)),⟨(by dsimp only; (clear again; trivial)),(by dsimp only; (clear again; (simp only [Flt.deep]; omega)))⟩⟩⟩⟩))))
theorem or_step (l : List Word) (hl : l.length ≤ 60) (e : Int) (t : Nat) (bad : Bool) (pos : Int) (ht : t ≤ l.length)
    (jN : ∀ t' bad pos,t' ≤ l.length → t ≤ t' → RdAt 138 l e t' bad pos) : RdAt 131 l e t bad pos := by
  unfold RdAt at jN ⊢
  refine spec_ex ok Go.Proofs.Tryz.func131 ok131 ?_
  refine (Exists.elim (@jN (t) (bad) (pos) ‹_› (by omega)) (fun _y9 ⟨_hz10,_hc11,_hc12,_hc13,_hc14,_hc15⟩ => .c _hz10 ?_))
  refine SatE.pUnroll 2 (St.mk [(0,.ref (.inc 0) 0 0),(2,.ref (.head 2 0) 0 0),(3,.ref (.head 3 0) 0 0)] [(.inc 0,.box
   (.agg [.tree (List.map encWord l),.int .i64 (↑_y9.snd.fst : Int),.int .i64 e,.bool _y9.snd.snd.fst,.int .i64 _y9.snd.snd.snd]) true),(.head 2 0,.box
   (.agg [.int .i64 0,.int .i64 0,.int .i64 0,.int .i64 0,.str [],.nils]) true),(.head 3 0,.box (encFlt _y9.fst) true)]) (by kernel_rfl) ?_
  refine (Exists.elim (@Tryz.c139 (l) ‹_› (_y9.snd.fst) ‹_› (e) (_y9.snd.snd.fst) (_y9.snd.snd.snd) ([(124 : UInt8)])) (fun _y16 ⟨_hz17,_hc18,_hc19,_hc20⟩ => .c _hz17 (.n _y16.fst
   (fun _h21 => have _hc22 := (_hc20 _h21); Exists.elim (@jN (_y16.snd) (_y9.snd.snd.fst) (_y9.snd.snd.snd) ‹_› (by omega)) (fun _y23 ⟨_hz24,_hc25,_hc26,_hc27,_hc28,_hc29⟩ => .c _hz24 ?_))
   (fun _h21 => .r (_y9.fst,_y16.snd,_y9.snd.snd.fst,_y9.snd.snd.snd) ⟨(by show t ≤ _y16.snd; omega),⟨(by dsimp only; trivial),⟨(by show _y9.fst.ok; trivial),⟨(by show _y9.fst.short; trivial),(by dsimp only; omega)⟩⟩⟩⟩))))
  refine SatE.pLoop 2 (St.mk [(0,.ref (.inc 0) 0 0),(2,.ref (.head 2 0) 0 0),(3,.ref (.head 3 0) 0 0)] [(.inc 0,.box
   (.agg [.tree (List.map encWord l),.int .i64 (↑_y23.snd.fst : Int),.int .i64 e,.bool _y23.snd.snd.fst,.int .i64 _y23.snd.snd.snd]) true),(.head 2 0,.box
   (.agg [.int .i64 0,.int .i64 0,.int .i64 0,.int .i64 0,.str [],.nils]) true),(.head 3 0,.box (.agg [.int .i64 6,.int .i64 0,.int .i64 0,.int .i64 0,.str [],.sref (.head 3 1) 0 2]) true),
   (.head 3 1,.row 6 [encFlt _y9.fst,encFlt _y23.fst] true true)]) (by kernel_rfl) (fun (p : Flt × Flt × Nat × Bool × Int) => ⟨[(0,.ref (.inc 0) 0 0),(2,.ref (.head 2 0) 0 0),(3,.ref
   (.head 3 0) 0 0)],[(.inc 0,.box (encRd ⟨l,p.2.2.1,e,p.2.2.2.1,p.2.2.2.2⟩) true),(.head 2 0,.box (.agg [.int .i64 0,.int .i64 0,.int .i64 0,.int .i64 0,.str [],.nils]) true),
   (.head 3 0,.box (.agg [.int .i64 6,.int .i64 0,.int .i64 0,.int .i64 0,.str [],.sref (.head 3 1) 0 2]) true),
   (.head 3 1,.row 6 [encFlt p.1,encFlt p.2.1] true true)]⟩) (fun p => t ≤ p.2.2.1 ∧ p.2.2.1 ≤ l.length ∧ p.1.ok ∧ p.1.short ∧ p.1.deep + 1 ≤ p.2.2.1 - t + 1 ∧ p.2.1.ok ∧ p.2.1.short ∧ p.2.1.deep + 1 ≤ p.2.2.1 - t + 1) (fun p => l.length - p.2.2.1) (_y9.1,_y23.1,_y23.2.1,_y23.2.2.1,_y23.2.2.2) rfl ?_ ?_
  · exact ⟨by dsimp only; omega,by dsimp only; omega,by assumption,by assumption,by dsimp only; omega,by assumption,by assumption,by dsimp only; omega⟩
  · rintro ⟨f,g,t',bad',pos'⟩ hI again
    obtain ⟨h1,h2,h3,h4,h5,h6,h7,h8⟩ := hI
    simp only at h1 h2 h3 h4 h5 h6 h7 h8
    refine (Exists.elim (@Tryz.c139 (l) ‹_› (t') ‹_› (e) (bad') (pos') ([(124 : UInt8)])) (fun _y45 ⟨_hz46,_hc47,_hc48,_hc49⟩ => .c _hz46 (.n _y45.fst
     (fun _h50 => have _hc51 := (_hc49 _h50); Exists.elim (@jN (_y45.snd) (bad') (pos') ‹_› (by omega)) (fun _y52 ⟨_hz53,_hc54,_hc55,_hc56,_hc57,_hc58⟩ => .c _hz53
     (.a (again ((Flt.two (6 : Int) f g,_y52.fst,_y52.snd.fst,_y52.snd.snd.fst,_y52.snd.snd.snd)) ⟨(by dsimp only; omega),⟨(by dsimp only; omega),⟨(by dsimp only; (clear again; (refine or_ok ?_ ?_ <;> assumption))),⟨(by dsimp only; (clear again; (refine two_short ?_ ?_ <;> assumption))),⟨(by dsimp only; (clear again; (simp only [Flt.deep]; omega))),⟨(by show _y52.fst.ok; omega),⟨(by dsimp only; omega),(by dsimp only; omega)⟩⟩⟩⟩⟩⟩⟩ (by dsimp only; omega)))))
     (fun _h50 => .r (Flt.two 6 f g,_y45.snd,bad',pos') ⟨(by show t ≤ _y45.snd; omega),⟨(by dsimp only; (clear again; trivial)),⟨(by dsimp only; (clear again; trivial)),⟨(by dsimp only; (clear again; trivial)),(by dsimp only; (clear again; (simp only [Flt.deep]; omega)))⟩⟩⟩⟩))))
theorem parse_all (l : List Word) (hl : l.length ≤ 60) (hw : ∀ w ∈ l,w.S.length ≤ 1000) (e : Int) : ∀ (n t : Nat) (bad : Bool) (pos : Int),t ≤ l.length → l.length - t ≤ n →
    RdAt 144 l e t bad pos ∧ RdAt 131 l e t bad pos := by
  intro n
  induction n using Nat.strongRecOn with
  | _ n ih =>
    have hN : ∀ (t : Nat) (bad : Bool) (pos : Int),t ≤ l.length → l.length - t ≤ n → RdAt 144 l e t bad pos := fun t bad pos ht hn =>
      not_step l hl hw e t bad pos ht (fun t' b p h1 h2 => (ih (l.length - t') (by omega) t' b p h1 (by omega)).1) (fun t' b p h1 h2 => (ih (l.length - t') (by omega) t' b p h1 (by omega)).2)
    have hA : ∀ (t : Nat) (bad : Bool) (pos : Int),t ≤ l.length → l.length - t ≤ n → RdAt 138 l e t bad pos := fun t bad pos ht hn =>
      and_step l hl e t bad pos ht (fun t' b p h1 h2 => hN t' b p h1 (by omega))
    exact fun t bad pos ht hn => ⟨hN t bad pos ht hn,or_step l hl e t bad pos ht (fun t' b p h1 h2 => hA t' b p h1 (by omega))⟩
theorem or_call (l : List Word) (hl : l.length ≤ 60) (hw : ∀ w ∈ l,w.S.length ≤ 1000) (e : Int) (t : Nat) (bad : Bool) (pos : Int) (ht : t ≤ l.length) : RdAt 131 l e t bad pos :=
  (parse_all l hl hw e _ t bad pos ht (Nat.le_refl _)).2
theorem c131 (l : List Word) (hl : l.length ≤ 60) (hw : ∀ w ∈ l,w.S.length ≤ 1000) (e : Int) (t : Nat) (bad : Bool) (pos : Int) (ht : t ≤ l.length) : ∃ p : Flt × Nat × Bool × Int,X.call 131 [.ref (.inc 0) 0 0] [.box (encRd ⟨l,t,e,bad,pos⟩) true] ⟨encFlt p.1,[.box (encRd ⟨l,p.2.1,e,p.2.2.1,p.2.2.2⟩) true],[]⟩ ∧ t ≤ p.2.1 ∧ p.2.1 ≤ l.length ∧ p.1.ok ∧ p.1.short ∧ p.1.deep ≤ p.2.1 - t + 1 := or_call l hl hw e t bad pos ht
theorem parse_ex (s : List UInt8) (hs : s.length ≤ 100000) : ∃ p : Flt × Int × Bool,X.call 106 [.str s] [] ⟨.tuple [encFlt p.1,.int .i64 p.2.1,.bool p.2.2],[],[]⟩ ∧ p.1.ok ∧ p.1.short ∧ (p.2.2 = true → s.length ≤ 80) := by
  refine spec_ex ok Go.Proofs.Tryz.func106 ok106 ?_
  refine (Exists.elim (@Tryz.c130 (s) ‹_›) (fun _y3 ⟨_hz4,_hc5,_hc6,_hc7⟩ => .c _hz4 (.m _y3.snd.snd
   (fun _h8 => .r (Flt.leaf 0 0 0 0 [],_y3.snd.fst,false) ⟨(by dsimp only; trivial),⟨(by dsimp only; (simp [Flt.short]; done)),(by dsimp only; (simp [Flt.ok]; done))⟩⟩)
   (fun _h8 => have _hc9 := (_hc7 _h8); Exists.elim (@Tryz.c131 (_y3.fst) ‹_› ‹_› ((↑s.length : Int)) ((0 : Nat)) (Bool.false) ((0 : Int)) (by omega))
   (fun _y10 ⟨_hz11,_hc12,_hc13,_hc14,_hc15,_hc16⟩ => .c _hz11 (.kl encWord _y3.fst _y10.snd.fst
   (fun _h17 => Exists.elim (@Tryz.c132 (_y3.fst) ‹_› (_y10.snd.fst) (↑s.length) (_y10.snd.snd.fst) (_y10.snd.snd.snd) ((↑_y10.snd.fst : Int)) (by omega) (by omega)) (fun _y18 _hz19 => .c _hz19 (.T
   (.r (Flt.leaf 0 0 0 0 [],_y18,false) ⟨(by dsimp only; trivial),⟨(by dsimp only; (simp [Flt.short]; done)),(by dsimp only; omega)⟩⟩)))) (fun _h17 => .n _y10.snd.snd.fst
   (fun _h20 => .r (Flt.leaf 0 0 0 0 [],_y10.snd.snd.snd,false) ⟨(by dsimp only; trivial),⟨(by dsimp only; (simp [Flt.short]; done)),(by dsimp only; omega)⟩⟩)
   (fun _h20 => .c (@Tryz.c133 (_y10.fst) (by omega)) (.k (6 < (↑_y10.fst.deep : Int)) (6 < _y10.fst.deep) (by simp only [ciLt])
   (fun _h21 => .r (Flt.leaf 0 0 0 0 [],(↑s.length : Int),false) ⟨(by dsimp only; trivial),⟨(by dsimp only; (simp [Flt.short]; done)),(by dsimp only; omega)⟩⟩)
   (fun _h21 => .r (_y10.fst,0,true) ⟨(by show _y10.fst.ok; trivial),⟨(by dsimp only; trivial),(by dsimp only; omega)⟩⟩))))))))))
end Go.Ab.Tryz
