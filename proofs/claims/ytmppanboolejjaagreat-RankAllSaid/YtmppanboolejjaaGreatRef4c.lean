/- Package cardamomref4: filters out of words, as plain Lean. -/
import Derived.Test.YtmppanboolejjaaGreatRef4b
namespace Go.Ab.Tryz
open Go
set_option maxRecDepth 100000
set_option maxHeartbeats 4000000
def RdAt (f : Nat) (l : List Word) (e : Int) (t : Nat) (bad : Bool) (pos : Int) : Prop :=
  ∃ p : Flt × Nat × Bool × Int,X.call f [.ref (.inc 0) 0 0] [.box (encRd ⟨l,t,e,bad,pos⟩) true] ⟨encFlt p.1,[.box (encRd ⟨l,p.2.1,e,p.2.2.1,p.2.2.2⟩) true],[]⟩ ∧ t ≤ p.2.1 ∧ p.2.1 ≤ l.length ∧ p.1.ok ∧ p.1.short ∧ p.1.deep ≤ p.2.1 - t + 1
theorem one_deep {a : Flt} {n : Nat} (h : a.deep + 1 ≤ n) : (Flt.one a).deep ≤ n := by simp only [Flt.deep]; omega
theorem and_ok {a b : Flt} (h : a.ok) (h' : b.ok) : (Flt.two 5 a b).ok := ⟨.inl rfl,h,h'⟩
theorem or_ok {a b : Flt} (h : a.ok) (h' : b.ok) : (Flt.two 6 a b).ok := ⟨.inr rfl,h,h'⟩
theorem two_short {o : Int} {a b : Flt} (h : a.short) (h' : b.short) : (Flt.two o a b).short := ⟨h,h'⟩
theorem not_step (l : List Word) (hl : l.length ≤ 60) (hw : ∀ w ∈ l,w.S.length ≤ 1000) (e : Int) (t : Nat) (bad : Bool) (pos : Int) (ht : t ≤ l.length)
    (jN : ∀ t' bad pos,t' ≤ l.length → t < t' → RdAt 144 l e t' bad pos)
    (jO : ∀ t' bad pos,t' ≤ l.length → t < t' → RdAt 131 l e t' bad pos) : RdAt 144 l e t bad pos := by
  unfold RdAt at jN jO ⊢
  refine spec_ex ok Go.Proofs.Tryz.func144 ok144 ?_
  refine (Exists.elim (@Tryz.c139 (l) ‹_› (t) ‹_› (e) (bad) (pos) ([(33 : UInt8)])) (fun _y11 _hz12 => have _hc13 := _hz12.2.1; have _hc14 := _hz12.2.2.1; have _hc15 := _hz12.2.2.2; .c _hz12.1
   (.n _y11.fst (fun _h16 => have _hc17 := (_hc15 _h16); Exists.elim (@jN (_y11.snd) (bad) (pos) ‹_› ‹_›)
   (fun _y18 _hz19 => have _hc20 := _hz19.2.1; have _hc21 := _hz19.2.2.1; have _hc22 := _hz19.2.2.2.1; have _hc23 := _hz19.2.2.2.2.1; have _hc24 := _hz19.2.2.2.2.2; .c _hz19.1
   (.r (_y18.fst.one,_y18.snd.fst,_y18.snd.snd.fst,_y18.snd.snd.snd) ⟨(by show t ≤ _y18.snd.fst; omega),⟨(by show _y18.snd.fst ≤ l.length; trivial),⟨(by show _y18.fst.one.ok; trivial),⟨(by show _y18.fst.one.short; trivial),(by show _y18.fst.one.deep ≤ _y18.snd.fst - t + (1 : Nat); (refine one_deep ?_; omega))⟩⟩⟩⟩)))
   (fun _h16 => Exists.elim (@Tryz.c139 (l) ‹_› (_y11.snd) ‹_› (e) (bad) (pos) ([(40 : UInt8)]))
   (fun _y25 _hz26 => have _hc27 := _hz26.2.1; have _hc28 := _hz26.2.2.1; have _hc29 := _hz26.2.2.2; .c _hz26.1 (.n _y25.fst
   (fun _h30 => have _hc31 := (_hc29 _h30); Exists.elim (@jO (_y25.snd) (bad) (pos) ‹_› (by omega))
   (fun _y32 _hz33 => have _hc34 := _hz33.2.1; have _hc35 := _hz33.2.2.1; have _hc36 := _hz33.2.2.2.1; have _hc37 := _hz33.2.2.2.2.1; have _hc38 := _hz33.2.2.2.2.2; .c _hz33.1 (Exists.elim (@Tryz.c139 (l) ‹_› (_y32.snd.fst) ‹_› (e) (_y32.snd.snd.fst) (_y32.snd.snd.snd) ([(41 : UInt8)]))
   (fun _y39 _hz40 => have _hc41 := _hz40.2.1; have _hc42 := _hz40.2.2.1; have _hc43 := _hz40.2.2.2; .c _hz40.1 (.m _y39.fst
   (fun _h44 => Exists.elim (@Tryz.c132 (l) ‹_› (_y39.snd) (e) (_y32.snd.snd.fst) (_y32.snd.snd.snd) ((↑_y39.snd : Int)) (by omega) (by omega)) (fun _y45 _hz46 => .c _hz46
   (.r (_y32.fst,_y39.snd,true,_y45) ⟨(by show t ≤ _y39.snd; omega),⟨(by show _y39.snd ≤ l.length; trivial),⟨(by show _y32.fst.ok; trivial),⟨(by show _y32.fst.short; trivial),(by show _y32.fst.deep ≤ _y39.snd - t + (1 : Nat); omega)⟩⟩⟩⟩)))
   (fun _h44 => have _hc47 := (_hc43 _h44); .r (_y32.fst,_y39.snd,_y32.snd.snd.fst,_y32.snd.snd.snd) ⟨(by show t ≤ _y39.snd; omega),⟨(by show _y39.snd ≤ l.length; trivial),⟨(by show _y32.fst.ok; trivial),⟨(by show _y32.fst.short; trivial),(by show _y32.fst.deep ≤ _y39.snd - t + (1 : Nat); omega)⟩⟩⟩⟩))))))
   (fun _h30 => Exists.elim (@Tryz.c139 (l) ‹_› (_y25.snd) ‹_› (e) (bad) (pos) ([(42 : UInt8)]))
   (fun _y48 _hz49 => have _hc50 := _hz49.2.1; have _hc51 := _hz49.2.2.1; have _hc52 := _hz49.2.2.2; .c _hz49.1 (.n _y48.fst
   (fun _h53 => have _hc54 := (_hc52 _h53); .r (Flt.leaf 1 0 0 0 [],_y48.snd,bad,pos) ⟨(by show t ≤ _y48.snd; omega),⟨(by show _y48.snd ≤ l.length; trivial),⟨(by show (Flt.leaf (1 : Int) (0 : Int) (0 : Int) (0 : Int) []).ok; trivial),⟨(by show (Flt.leaf (1 : Int) (0 : Int) (0 : Int) (0 : Int) []).short; (simp [Flt.short]; done)),(by show (1 : Nat) ≤ _y48.snd - t + (1 : Nat); omega)⟩⟩⟩⟩)
   (fun _h53 => Exists.elim (@Tryz.c139 (l) ‹_› (_y48.snd) ‹_› (e) (bad) (pos) ([(94 : UInt8)]))
   (fun _y55 _hz56 => have _hc57 := _hz56.2.1; have _hc58 := _hz56.2.2.1; have _hc59 := _hz56.2.2.2; .c _hz56.1 (.n _y55.fst
   (fun _h60 => have _hc61 := (_hc59 _h60); .k ((↑(List.map encWord l).length : Int) ≤ (↑_y55.snd : Int)) (l.length ≤ _y55.snd) (by simp only [List.length_map,Int.ofNat_le])
   (fun _h62 => .et ((↑(List.map encWord l).length : Int) ≤ (↑_y55.snd : Int)) (by simp only [List.length_map,Int.ofNat_le]) _h62
   (.et ((↑(List.map encWord l).length : Int) ≤ (↑_y55.snd : Int)) (by simp only [List.length_map,Int.ofNat_le]) _h62
   (.et ((↑(List.map encWord l).length : Int) ≤ (↑_y55.snd : Int)) (by simp only [List.length_map,Int.ofNat_le]) _h62
   (.et ((↑(List.map encWord l).length : Int) ≤ (↑_y55.snd : Int)) (by simp only [List.length_map,Int.ofNat_le]) _h62
   (.et ((↑(List.map encWord l).length : Int) ≤ (↑_y55.snd : Int)) (by simp only [List.length_map,Int.ofNat_le]) _h62
   (.et ((↑(List.map encWord l).length : Int) ≤ (↑_y55.snd : Int)) (by simp only [List.length_map,Int.ofNat_le]) _h62
   (.et ((↑(List.map encWord l).length : Int) ≤ (↑_y55.snd : Int)) (by simp only [List.length_map,Int.ofNat_le]) _h62
   (.et ((↑(List.map encWord l).length : Int) ≤ (↑_y55.snd : Int)) (by simp only [List.length_map,Int.ofNat_le]) _h62
   (.et ((↑(List.map encWord l).length : Int) ≤ (↑_y55.snd : Int)) (by simp only [List.length_map,Int.ofNat_le]) _h62
   (.et ((↑(List.map encWord l).length : Int) ≤ (↑_y55.snd : Int)) (by simp only [List.length_map,Int.ofNat_le]) _h62
   (.et ((↑(List.map encWord l).length : Int) ≤ (↑_y55.snd : Int)) (by simp only [List.length_map,Int.ofNat_le]) _h62
   (.et ((↑(List.map encWord l).length : Int) ≤ (↑_y55.snd : Int)) (by simp only [List.length_map,Int.ofNat_le]) _h62
   (.T (Exists.elim (@Tryz.c132 (l) ‹_› (_y55.snd) (e) (bad) (pos) ((↑_y55.snd : Int)) (by omega) (by omega)) (fun _y63 _hz64 => .c _hz64
   (.r (Flt.leaf 0 0 0 0 [],_y55.snd,true,_y63) ⟨(by show t ≤ _y55.snd; omega),⟨(by show _y55.snd ≤ l.length; trivial),⟨(by show (Flt.leaf (0 : Int) (0 : Int) (0 : Int) (0 : Int) []).ok; trivial),⟨(by show (Flt.leaf (0 : Int) (0 : Int) (0 : Int) (0 : Int) []).short; (simp [Flt.short]; done)),(by show (1 : Nat) ≤ _y55.snd - t + (1 : Nat); omega)⟩⟩⟩⟩))))))))))))))))
   (fun _h62 => .eF ((↑(List.map encWord l).length : Int) ≤ (↑_y55.snd : Int)) (by simp only [List.length_map,Int.ofNat_le]) _h62
   (.eF ((↑(List.map encWord l).length : Int) ≤ (↑_y55.snd : Int)) (by simp only [List.length_map,Int.ofNat_le]) _h62
   (.eF ((↑(List.map encWord l).length : Int) ≤ (↑_y55.snd : Int)) (by simp only [List.length_map,Int.ofNat_le]) _h62
   (.eF ((↑(List.map encWord l).length : Int) ≤ (↑_y55.snd : Int)) (by simp only [List.length_map,Int.ofNat_le]) _h62
   (.eF ((↑(List.map encWord l).length : Int) ≤ (↑_y55.snd : Int)) (by simp only [List.length_map,Int.ofNat_le]) _h62
   (.eF ((↑(List.map encWord l).length : Int) ≤ (↑_y55.snd : Int)) (by simp only [List.length_map,Int.ofNat_le]) _h62
   (.eF ((↑(List.map encWord l).length : Int) ≤ (↑_y55.snd : Int)) (by simp only [List.length_map,Int.ofNat_le]) _h62
   (.eF ((↑(List.map encWord l).length : Int) ≤ (↑_y55.snd : Int)) (by simp only [List.length_map,Int.ofNat_le]) _h62 (.T (.em encWord l _y55.snd (by omega)
   (fun _x65 _hx66 => have _hc67 := (hw _x65 (List.mem_of_getElem? _hx66)); .eF ((↑(List.map encWord l).length : Int) ≤ (↑_y55.snd : Int)) (by simp only [List.length_map,Int.ofNat_le]) _h62
   (.eF ((↑(List.map encWord l).length : Int) ≤ (↑_y55.snd : Int)) (by simp only [List.length_map,Int.ofNat_le]) _h62
   (.eF ((↑(List.map encWord l).length : Int) ≤ (↑_y55.snd : Int)) (by simp only [List.length_map,Int.ofNat_le]) _h62
   (.eF ((↑(List.map encWord l).length : Int) ≤ (↑_y55.snd : Int)) (by simp only [List.length_map,Int.ofNat_le]) _h62 (.j (_x65.Kind = 1)
   (fun _h68 => Exists.elim (@Tryz.c132 (l) ‹_› (_y55.snd) (e) (bad) (pos) ((↑_y55.snd : Int)) (by omega) (by omega)) (fun _y69 _hz70 => .c _hz70
   (.r (Flt.leaf 0 0 0 0 [],_y55.snd,true,_y69) ⟨(by show t ≤ _y55.snd; omega),⟨(by show _y55.snd ≤ l.length; trivial),⟨(by show (Flt.leaf (0 : Int) (0 : Int) (0 : Int) (0 : Int) []).ok; trivial),⟨(by show (Flt.leaf (0 : Int) (0 : Int) (0 : Int) (0 : Int) []).short; (simp [Flt.short]; done)),(by show (1 : Nat) ≤ _y55.snd - t + (1 : Nat); omega)⟩⟩⟩⟩)))
   (fun _h68 => have _w71 := wI64' ((↑_y55.snd : Int) + (1 : Int)); have _w72 := wI64' ((↑_y55.snd : Int) + (1 : Int) - (1 : Int)); .k (0 ≤ IntKind.i64.wrap (IntKind.i64.wrap ((↑_y55.snd : Int) + 1) - 1)) (0 ≤ (↑_y55.snd : Int) + 1 - 1) (by simp only [_w72,_w71])
   (fun _h73 => .eM encWord l ((IntKind.i64.wrap (IntKind.i64.wrap ((↑_y55.snd : Int) + 1) - 1)).toNat) (((↑_y55.snd : Int) + 1 - 1).toNat) (by simp only [_w72,_w71]) (by omega)
   (fun _x74 _hx75 => have _hc76 := (hw _x74 (List.mem_of_getElem? _hx75)); .q (Res.mk (.agg [.int .i64 4,.int .i64 0,.int .i64 0,.int .i64 0,.str _x74.S,.tree []]) [.box
   (.agg [.tree (List.map encWord l),.int .i64 (IntKind.i64.wrap ((↑_y55.snd : Int) + 1)),.int .i64 e,.bool bad,.int .i64 pos]) true] []) ⟨(Flt.leaf (4 : Int) (0 : Int) (0 : Int) (0 : Int) _x74.S,_y55.snd + (1 : Nat),bad,pos),(by simp [encRd,encFlt_leaf,_w71]),⟨(by show t ≤ _y55.snd + (1 : Nat); omega),⟨(by show _y55.snd + (1 : Nat) ≤ l.length; omega),⟨(by show (Flt.leaf (4 : Int) (0 : Int) (0 : Int) (0 : Int) _x74.S).ok; trivial),⟨(by show (Flt.leaf (4 : Int) (0 : Int) (0 : Int) (0 : Int) _x74.S).short; (have := hw _ (List.mem_of_getElem? ‹_›); simp [Flt.short]; omega)),(by show (Flt.leaf (4 : Int) (0 : Int) (0 : Int) (0 : Int) _x74.S).deep ≤ _y55.snd + (1 : Nat) - t + (1 : Nat); (simp [Flt.deep]; done))⟩⟩⟩⟩⟩))
   (fun _h73 => False.elim (by omega))))))))))))))))))) (fun _h60 => Exists.elim (@Tryz.c139 (l) ‹_› (_y55.snd) ‹_› (e) (bad) (pos) ([(64 : UInt8)]))
   (fun _y77 _hz78 => have _hc79 := _hz78.2.1; have _hc80 := _hz78.2.2.1; have _hc81 := _hz78.2.2.2; .c _hz78.1 (.n _y77.fst
   (fun _h82 => have _hc83 := (_hc81 _h82); Exists.elim (@Tryz.c146 (l) ‹_› (_y77.snd) ‹_› (e) (bad) (pos))
   (fun _y84 _hz85 => have _hc86 := _hz85.2.1; have _hc87 := _hz85.2.2.1; have _hc88 := _hz85.2.2.2.1; have _hc89 := _hz85.2.2.2.2.1; have _hc90 := _hz85.2.2.2.2.2; .c _hz85.1
   (.r (_y84.fst,_y84.snd.fst,_y84.snd.snd.fst,_y84.snd.snd.snd) ⟨(by show t ≤ _y84.snd.fst; omega),⟨(by show _y84.snd.fst ≤ l.length; trivial),⟨(by show _y84.fst.ok; trivial),⟨(by show _y84.fst.short; trivial),(by show _y84.fst.deep ≤ _y84.snd.fst - t + (1 : Nat); omega)⟩⟩⟩⟩)))
   (fun _h82 => Exists.elim (@Tryz.c132 (l) ‹_› (_y77.snd) (e) (bad) (pos) ((↑_y77.snd : Int)) (by omega) (by omega)) (fun _y91 _hz92 => .c _hz92
   (.r (Flt.leaf 0 0 0 0 [],_y77.snd,true,_y91) ⟨(by show t ≤ _y77.snd; omega),⟨(by show _y77.snd ≤ l.length; trivial),⟨(by show (Flt.leaf (0 : Int) (0 : Int) (0 : Int) (0 : Int) []).ok; trivial),⟨(by show (Flt.leaf (0 : Int) (0 : Int) (0 : Int) (0 : Int) []).short; (simp [Flt.short]; done)),(by show (1 : Nat) ≤ _y77.snd - t + (1 : Nat); omega)⟩⟩⟩⟩))))))))))))))))))
theorem and_step (l : List Word) (hl : l.length ≤ 60) (e : Int) (t : Nat) (bad : Bool) (pos : Int) (ht : t ≤ l.length)
    (jN : ∀ t' bad pos,t' ≤ l.length → t ≤ t' → RdAt 144 l e t' bad pos) : RdAt 138 l e t bad pos := by
  unfold RdAt at jN ⊢
  refine spec_ex ok Go.Proofs.Tryz.func138 ok138 ?_
  refine (Exists.elim (@jN (t) (bad) (pos) ‹_› (by omega))
   (fun _y9 _hz10 => have _hc11 := _hz10.2.1; have _hc12 := _hz10.2.2.1; have _hc13 := _hz10.2.2.2.1; have _hc14 := _hz10.2.2.2.2.1; have _hc15 := _hz10.2.2.2.2.2; .c _hz10.1 ?_))
  refine SatE.pUnroll 2 (St.mk [(0,.ref (.inc 0) 0 0),(2,.ref (.head 2 0) 0 0),(3,.ref (.head 3 0) 0 0)] [(.inc 0,.box
   (.agg [.tree (List.map encWord l),.int .i64 (↑_y9.snd.fst : Int),.int .i64 e,.bool _y9.snd.snd.fst,.int .i64 _y9.snd.snd.snd]) true),(.head 2 0,.box
   (.agg [.int .i64 0,.int .i64 0,.int .i64 0,.int .i64 0,.str [],.nils]) true),(.head 3 0,.box (encFlt _y9.fst) true)]) (by kernel_rfl) ?_
  refine (Exists.elim (@Tryz.c139 (l) ‹_› (_y9.snd.fst) ‹_› (e) (_y9.snd.snd.fst) (_y9.snd.snd.snd) ([(38 : UInt8)]))
   (fun _y16 _hz17 => have _hc18 := _hz17.2.1; have _hc19 := _hz17.2.2.1; have _hc20 := _hz17.2.2.2; .c _hz17.1 (.n _y16.fst
   (fun _h21 => have _hc22 := (_hc20 _h21); Exists.elim (@jN (_y16.snd) (_y9.snd.snd.fst) (_y9.snd.snd.snd) ‹_› (by omega))
   (fun _y23 _hz24 => have _hc25 := _hz24.2.1; have _hc26 := _hz24.2.2.1; have _hc27 := _hz24.2.2.2.1; have _hc28 := _hz24.2.2.2.2.1; have _hc29 := _hz24.2.2.2.2.2; .c _hz24.1 ?_))
   (fun _h21 => .r (_y9.fst,_y16.snd,_y9.snd.snd.fst,_y9.snd.snd.snd) ⟨(by show t ≤ _y16.snd; omega),⟨(by show _y16.snd ≤ l.length; trivial),⟨(by show _y9.fst.ok; trivial),⟨(by show _y9.fst.short; trivial),(by show _y9.fst.deep ≤ _y16.snd - t + (1 : Nat); omega)⟩⟩⟩⟩))))
  refine SatE.pLoop 2 (St.mk [(0,.ref (.inc 0) 0 0),(2,.ref (.head 2 0) 0 0),(3,.ref (.head 3 0) 0 0)] [(.inc 0,.box
   (.agg [.tree (List.map encWord l),.int .i64 (↑_y23.snd.fst : Int),.int .i64 e,.bool _y23.snd.snd.fst,.int .i64 _y23.snd.snd.snd]) true),(.head 2 0,.box
   (.agg [.int .i64 0,.int .i64 0,.int .i64 0,.int .i64 0,.str [],.nils]) true),(.head 3 0,.box (.agg [.int .i64 5,.int .i64 0,.int .i64 0,.int .i64 0,.str [],.sref (.head 3 1) 0 2]) true),
   (.head 3 1,.row 6 [encFlt _y9.fst,encFlt _y23.fst] true true)]) (by kernel_rfl) (fun (p : Flt × Flt × Nat × Bool × Int) => ⟨[(0,.ref (.inc 0) 0 0),(2,.ref (.head 2 0) 0 0),(3,.ref
   (.head 3 0) 0 0)],[(.inc 0,.box (encRd ⟨l,p.2.2.1,e,p.2.2.2.1,p.2.2.2.2⟩) true),(.head 2 0,.box (.agg [.int .i64 0,.int .i64 0,.int .i64 0,.int .i64 0,.str [],.nils]) true),
   (.head 3 0,.box (.agg [.int .i64 5,.int .i64 0,.int .i64 0,.int .i64 0,.str [],.sref (.head 3 1) 0 2]) true),
   (.head 3 1,.row 6 [encFlt p.1,encFlt p.2.1] true true)]⟩) (fun p => t ≤ p.2.2.1 ∧ p.2.2.1 ≤ l.length ∧ p.1.ok ∧ p.1.short ∧ p.1.deep + 1 ≤ p.2.2.1 - t + 1 ∧ p.2.1.ok ∧ p.2.1.short ∧ p.2.1.deep + 1 ≤ p.2.2.1 - t + 1) (fun p => l.length - p.2.2.1) (_y9.1,_y23.1,_y23.2.1,_y23.2.2.1,_y23.2.2.2) rfl ?_ ?_
  · exact ⟨by dsimp only; omega,by dsimp only; omega,by assumption,by assumption,by dsimp only; omega,by assumption,by assumption,by dsimp only; omega⟩
  · rintro ⟨f,g,t',bad',pos'⟩ hI again
    obtain ⟨h1,h2,h3,h4,h5,h6,h7,h8⟩ := hI
    simp only at h1 h2 h3 h4 h5 h6 h7 h8
    refine (Exists.elim (@Tryz.c139 (l) ‹_› (t') ‹_› (e) (bad') (pos') ([(38 : UInt8)])) (fun _y45 _hz46 => have _hc47 := _hz46.2.1; have _hc48 := _hz46.2.2.1; have _hc49 := _hz46.2.2.2; .c _hz46.1
     (.n _y45.fst (fun _h50 => have _hc51 := (_hc49 _h50); Exists.elim (@jN (_y45.snd) (bad') (pos') ‹_› (by omega))
     (fun _y52 _hz53 => have _hc54 := _hz53.2.1; have _hc55 := _hz53.2.2.1; have _hc56 := _hz53.2.2.2.1; have _hc57 := _hz53.2.2.2.2.1; have _hc58 := _hz53.2.2.2.2.2; .c _hz53.1
     (.a (again ((Flt.two (5 : Int) f g,_y52.fst,_y52.snd.fst,_y52.snd.snd.fst,_y52.snd.snd.snd)) ⟨(by show t ≤ _y52.snd.fst; omega),⟨(by show _y52.snd.fst ≤ l.length; omega),⟨(by show (Flt.two (5 : Int) f g).ok; (clear again; (refine and_ok ?_ ?_ <;> assumption))),⟨(by show (Flt.two (5 : Int) f g).short; (clear again; (refine two_short ?_ ?_ <;> assumption))),⟨(by show (Flt.two (5 : Int) f g).deep + (1 : Nat) ≤ _y52.snd.fst - t + (1 : Nat); (clear again; (simp only [Flt.deep]; omega))),⟨(by show _y52.fst.ok; omega),⟨(by show _y52.fst.short; omega),(by show _y52.fst.deep + (1 : Nat) ≤ _y52.snd.fst - t + (1 : Nat); omega)⟩⟩⟩⟩⟩⟩⟩ (by show l.length - _y52.snd.fst < l.length - t'; omega)))))
     (fun _h50 => .r (Flt.two 5 f g,_y45.snd,bad',pos') ⟨(by show t ≤ _y45.snd; omega),⟨(by show _y45.snd ≤ l.length; (clear again; trivial)),⟨(by show (Flt.two (5 : Int) f g).ok; (clear again; trivial)),⟨(by show (Flt.two (5 : Int) f g).short; (clear again; trivial)),(by show (Flt.two (5 : Int) f g).deep ≤ _y45.snd - t + (1 : Nat); (clear again; (simp only [Flt.deep]; omega)))⟩⟩⟩⟩))))
theorem or_step (l : List Word) (hl : l.length ≤ 60) (e : Int) (t : Nat) (bad : Bool) (pos : Int) (ht : t ≤ l.length)
    (jN : ∀ t' bad pos,t' ≤ l.length → t ≤ t' → RdAt 138 l e t' bad pos) : RdAt 131 l e t bad pos := by
  unfold RdAt at jN ⊢
  refine spec_ex ok Go.Proofs.Tryz.func131 ok131 ?_
  refine (Exists.elim (@jN (t) (bad) (pos) ‹_› (by omega))
   (fun _y9 _hz10 => have _hc11 := _hz10.2.1; have _hc12 := _hz10.2.2.1; have _hc13 := _hz10.2.2.2.1; have _hc14 := _hz10.2.2.2.2.1; have _hc15 := _hz10.2.2.2.2.2; .c _hz10.1 ?_))
  refine SatE.pUnroll 2 (St.mk [(0,.ref (.inc 0) 0 0),(2,.ref (.head 2 0) 0 0),(3,.ref (.head 3 0) 0 0)] [(.inc 0,.box
   (.agg [.tree (List.map encWord l),.int .i64 (↑_y9.snd.fst : Int),.int .i64 e,.bool _y9.snd.snd.fst,.int .i64 _y9.snd.snd.snd]) true),(.head 2 0,.box
   (.agg [.int .i64 0,.int .i64 0,.int .i64 0,.int .i64 0,.str [],.nils]) true),(.head 3 0,.box (encFlt _y9.fst) true)]) (by kernel_rfl) ?_
  refine (Exists.elim (@Tryz.c139 (l) ‹_› (_y9.snd.fst) ‹_› (e) (_y9.snd.snd.fst) (_y9.snd.snd.snd) ([(124 : UInt8)]))
   (fun _y16 _hz17 => have _hc18 := _hz17.2.1; have _hc19 := _hz17.2.2.1; have _hc20 := _hz17.2.2.2; .c _hz17.1 (.n _y16.fst
   (fun _h21 => have _hc22 := (_hc20 _h21); Exists.elim (@jN (_y16.snd) (_y9.snd.snd.fst) (_y9.snd.snd.snd) ‹_› (by omega))
   (fun _y23 _hz24 => have _hc25 := _hz24.2.1; have _hc26 := _hz24.2.2.1; have _hc27 := _hz24.2.2.2.1; have _hc28 := _hz24.2.2.2.2.1; have _hc29 := _hz24.2.2.2.2.2; .c _hz24.1 ?_))
   (fun _h21 => .r (_y9.fst,_y16.snd,_y9.snd.snd.fst,_y9.snd.snd.snd) ⟨(by show t ≤ _y16.snd; omega),⟨(by show _y16.snd ≤ l.length; trivial),⟨(by show _y9.fst.ok; trivial),⟨(by show _y9.fst.short; trivial),(by show _y9.fst.deep ≤ _y16.snd - t + (1 : Nat); omega)⟩⟩⟩⟩))))
  refine SatE.pLoop 2 (St.mk [(0,.ref (.inc 0) 0 0),(2,.ref (.head 2 0) 0 0),(3,.ref (.head 3 0) 0 0)] [(.inc 0,.box
   (.agg [.tree (List.map encWord l),.int .i64 (↑_y23.snd.fst : Int),.int .i64 e,.bool _y23.snd.snd.fst,.int .i64 _y23.snd.snd.snd]) true),(.head 2 0,.box
   (.agg [.int .i64 0,.int .i64 0,.int .i64 0,.int .i64 0,.str [],.nils]) true),(.head 3 0,.box (.agg [.int .i64 6,.int .i64 0,.int .i64 0,.int .i64 0,.str [],.sref (.head 3 1) 0 2]) true),
   (.head 3 1,.row 6 [encFlt _y9.fst,encFlt _y23.fst] true true)]) (by kernel_rfl) (fun (p : Flt × Flt × Nat × Bool × Int) => ⟨[(0,.ref (.inc 0) 0 0),(2,.ref (.head 2 0) 0 0),(3,.ref
   (.head 3 0) 0 0)],[(.inc 0,.box (encRd ⟨l,p.2.2.1,e,p.2.2.2.1,p.2.2.2.2⟩) true),(.head 2 0,.box (.agg [.int .i64 0,.int .i64 0,.int .i64 0,.int .i64 0,.str [],.nils]) true),
   (.head 3 0,.box (.agg [.int .i64 6,.int .i64 0,.int .i64 0,.int .i64 0,.str [],.sref (.head 3 1) 0 2]) true),
   (.head 3 1,.row 6 [encFlt p.1,encFlt p.2.1] true true)]⟩) (fun p => t ≤ p.2.2.1 ∧ p.2.2.1 ≤ l.length ∧ p.1.ok ∧ p.1.short ∧ p.1.deep + 1 ≤ p.2.2.1 - t + 1 ∧ p.2.1.ok ∧ p.2.1.short ∧ p.2.1.deep + 1 ≤ p.2.2.1 - t + 1) (fun p => l.length - p.2.2.1) (_y9.1,_y23.1,_y23.2.1,_y23.2.2.1,_y23.2.2.2) rfl ?_ ?_
  · exact ⟨by dsimp only; omega,by dsimp only; omega,by assumption,by assumption,by dsimp only; omega,by assumption,by assumption,by dsimp only; omega⟩
  · rintro ⟨f,g,t',bad',pos'⟩ hI again
    obtain ⟨h1,h2,h3,h4,h5,h6,h7,h8⟩ := hI
    simp only at h1 h2 h3 h4 h5 h6 h7 h8
    refine (Exists.elim (@Tryz.c139 (l) ‹_› (t') ‹_› (e) (bad') (pos') ([(124 : UInt8)])) (fun _y45 _hz46 => have _hc47 := _hz46.2.1; have _hc48 := _hz46.2.2.1; have _hc49 := _hz46.2.2.2; .c _hz46.1
     (.n _y45.fst (fun _h50 => have _hc51 := (_hc49 _h50); Exists.elim (@jN (_y45.snd) (bad') (pos') ‹_› (by omega))
     (fun _y52 _hz53 => have _hc54 := _hz53.2.1; have _hc55 := _hz53.2.2.1; have _hc56 := _hz53.2.2.2.1; have _hc57 := _hz53.2.2.2.2.1; have _hc58 := _hz53.2.2.2.2.2; .c _hz53.1
     (.a (again ((Flt.two (6 : Int) f g,_y52.fst,_y52.snd.fst,_y52.snd.snd.fst,_y52.snd.snd.snd)) ⟨(by show t ≤ _y52.snd.fst; omega),⟨(by show _y52.snd.fst ≤ l.length; omega),⟨(by show (Flt.two (6 : Int) f g).ok; (clear again; (refine or_ok ?_ ?_ <;> assumption))),⟨(by show (Flt.two (6 : Int) f g).short; (clear again; (refine two_short ?_ ?_ <;> assumption))),⟨(by show (Flt.two (6 : Int) f g).deep + (1 : Nat) ≤ _y52.snd.fst - t + (1 : Nat); (clear again; (simp only [Flt.deep]; omega))),⟨(by show _y52.fst.ok; omega),⟨(by show _y52.fst.short; omega),(by show _y52.fst.deep + (1 : Nat) ≤ _y52.snd.fst - t + (1 : Nat); omega)⟩⟩⟩⟩⟩⟩⟩ (by show l.length - _y52.snd.fst < l.length - t'; omega)))))
     (fun _h50 => .r (Flt.two 6 f g,_y45.snd,bad',pos') ⟨(by show t ≤ _y45.snd; omega),⟨(by show _y45.snd ≤ l.length; (clear again; trivial)),⟨(by show (Flt.two (6 : Int) f g).ok; (clear again; trivial)),⟨(by show (Flt.two (6 : Int) f g).short; (clear again; trivial)),(by show (Flt.two (6 : Int) f g).deep ≤ _y45.snd - t + (1 : Nat); (clear again; (simp only [Flt.deep]; omega)))⟩⟩⟩⟩))))
theorem parse_all (l : List Word) (hl : l.length ≤ 60) (hw : ∀ w ∈ l,w.S.length ≤ 1000) (e : Int) : ∀ (n t : Nat) (bad : Bool) (pos : Int),t ≤ l.length → l.length - t ≤ n →
    RdAt 144 l e t bad pos ∧ RdAt 131 l e t bad pos := by
  intro n
  induction n using Nat.strongRecOn with
  | _ n ih =>
    have hN : ∀ (t : Nat) (bad : Bool) (pos : Int),t ≤ l.length → l.length - t ≤ n → RdAt 144 l e t bad pos := fun t bad pos ht hn =>
      not_step l hl hw e t bad pos ht (fun t' b p h1 h2 => (ih (l.length - t') (by omega) t' b p h1 (by omega)).1) (fun t' b p h1 h2 => (ih (l.length - t') (by omega) t' b p h1 (by omega)).2)
    have hA : ∀ (t : Nat) (bad : Bool) (pos : Int),t ≤ l.length → l.length - t ≤ n → RdAt 138 l e t bad pos := fun t bad pos ht hn =>
      and_step l hl e t bad pos ht (fun t' b p h1 h2 => hN t' b p h1 (by omega))
    exact fun t bad pos ht hn => ⟨hN t bad pos ht hn,or_step l hl e t bad pos ht (fun t' b p h1 h2 => hA t' b p h1 (by omega))⟩
theorem or_call (l : List Word) (hl : l.length ≤ 60) (hw : ∀ w ∈ l,w.S.length ≤ 1000) (e : Int) (t : Nat) (bad : Bool) (pos : Int) (ht : t ≤ l.length) : RdAt 131 l e t bad pos :=
  (parse_all l hl hw e _ t bad pos ht (Nat.le_refl _)).2
theorem c131 (l : List Word) (hl : l.length ≤ 60) (hw : ∀ w ∈ l,w.S.length ≤ 1000) (e : Int) (t : Nat) (bad : Bool) (pos : Int) (ht : t ≤ l.length) : ∃ p : Flt × Nat × Bool × Int,X.call 131 [.ref (.inc 0) 0 0] [.box (encRd ⟨l,t,e,bad,pos⟩) true] ⟨encFlt p.1,[.box (encRd ⟨l,p.2.1,e,p.2.2.1,p.2.2.2⟩) true],[]⟩ ∧ t ≤ p.2.1 ∧ p.2.1 ≤ l.length ∧ p.1.ok ∧ p.1.short ∧ p.1.deep ≤ p.2.1 - t + 1 := or_call l hl hw e t bad pos ht
theorem parse_ex (s : List UInt8) (hs : s.length ≤ 100000) : ∃ p : Flt × Int × Bool,X.call 106 [.str s] [] ⟨.tuple [encFlt p.1,.int .i64 p.2.1,.bool p.2.2],[],[]⟩ ∧ p.1.ok ∧ p.1.short ∧ (p.2.2 = true → s.length ≤ 80) := by
  refine spec_ex ok Go.Proofs.Tryz.func106 ok106 ?_
  refine (Exists.elim (@Tryz.c130 (s) ‹_›) (fun _y3 _hz4 => have _hc5 := _hz4.2.1; have _hc6 := _hz4.2.2.1; have _hc7 := _hz4.2.2.2; .c _hz4.1 (.m _y3.snd.snd
   (fun _h8 => .r (Flt.leaf 0 0 0 0 [],_y3.snd.fst,false) ⟨(by show (Flt.leaf (0 : Int) (0 : Int) (0 : Int) (0 : Int) []).ok; trivial),⟨(by show (Flt.leaf (0 : Int) (0 : Int) (0 : Int) (0 : Int) []).short; (simp [Flt.short]; done)),(by show Bool.false = Bool.true → s.length ≤ (80 : Nat); (simp [Flt.ok]; done))⟩⟩)
   (fun _h8 => have _hc9 := (_hc7 _h8); Exists.elim (@Tryz.c131 (_y3.fst) ‹_› ‹_› ((↑s.length : Int)) ((0 : Nat)) (Bool.false) ((0 : Int)) (by omega))
   (fun _y10 _hz11 => have _hc12 := _hz11.2.1; have _hc13 := _hz11.2.2.1; have _hc14 := _hz11.2.2.2.1; have _hc15 := _hz11.2.2.2.2.1; have _hc16 := _hz11.2.2.2.2.2; .c _hz11.1
   (.k ((↑_y10.snd.fst : Int) < (↑(List.map encWord _y3.fst).length : Int)) (_y10.snd.fst < _y3.fst.length) (by simp only [List.length_map,Int.ofNat_lt])
   (fun _h17 => Exists.elim (@Tryz.c132 (_y3.fst) ‹_› (_y10.snd.fst) (↑s.length) (_y10.snd.snd.fst) (_y10.snd.snd.snd) ((↑_y10.snd.fst : Int)) (by omega) (by omega)) (fun _y18 _hz19 => .c _hz19 (.T
   (.r (Flt.leaf 0 0 0 0 [],_y18,false) ⟨(by show (Flt.leaf (0 : Int) (0 : Int) (0 : Int) (0 : Int) []).ok; trivial),⟨(by show (Flt.leaf (0 : Int) (0 : Int) (0 : Int) (0 : Int) []).short; (simp [Flt.short]; done)),(by show Bool.false = Bool.true → s.length ≤ (80 : Nat); omega)⟩⟩))))
   (fun _h17 => .n _y10.snd.snd.fst
   (fun _h20 => .r (Flt.leaf 0 0 0 0 [],_y10.snd.snd.snd,false) ⟨(by show (Flt.leaf (0 : Int) (0 : Int) (0 : Int) (0 : Int) []).ok; trivial),⟨(by show (Flt.leaf (0 : Int) (0 : Int) (0 : Int) (0 : Int) []).short; (simp [Flt.short]; done)),(by show Bool.false = Bool.true → s.length ≤ (80 : Nat); omega)⟩⟩)
   (fun _h20 => .c (@Tryz.c133 (_y10.fst) (by omega)) (.k (6 < (↑_y10.fst.deep : Int)) (6 < _y10.fst.deep) (by simp only [ciLt])
   (fun _h21 => .r (Flt.leaf 0 0 0 0 [],(↑s.length : Int),false) ⟨(by show (Flt.leaf (0 : Int) (0 : Int) (0 : Int) (0 : Int) []).ok; trivial),⟨(by show (Flt.leaf (0 : Int) (0 : Int) (0 : Int) (0 : Int) []).short; (simp [Flt.short]; done)),(by show Bool.false = Bool.true → s.length ≤ (80 : Nat); omega)⟩⟩)
   (fun _h21 => .r (_y10.fst,0,true) ⟨(by show _y10.fst.ok; trivial),⟨(by show _y10.fst.short; trivial),(by show Bool.true = Bool.true → s.length ≤ (80 : Nat); omega)⟩⟩))))))))))
end Go.Ab.Tryz
