/- Package cardamomref4: words and filters, as plain Lean. -/
import Derived.Test.YtmppanboolejjaaGreatRef1d
import Derived.Test.YtmppanboolejjaaGreatG3
namespace Go.Ab.Tryz
open Go
set_option maxRecDepth 100000
set_option maxHeartbeats 4000000
theorem c142 (c : UInt8) : X.call 142 [.int .u8 c.toNat] [] ⟨.bool (decide (97 ≤ c.toNat ∧ c.toNat ≤ 122)),[],[]⟩ := by
  refine spec_of ok Go.Proofs.Tryz.func142 ok142 ?_
  refine (have _u2 : c.toNat < (256 : Nat) := UInt8.toNat_lt _; .k (97 ≤ (↑c.toNat : Int)) (97 ≤ c.toNat) (by simp only [ciLe]) (fun _h3 => .et (97 ≤ (↑c.toNat : Int)) (by simp only [ciLe]) _h3
   (.et (97 ≤ (↑c.toNat : Int)) (by simp only [ciLe]) _h3 (.q (Res.mk (.bool (decide ((↑c.toNat : Int) ≤ 122))) [] []) (by (simp_all; omega)))))
   (fun _h3 => .eF (97 ≤ (↑c.toNat : Int)) (by simp only [ciLe]) _h3 (.eF (97 ≤ (↑c.toNat : Int)) (by simp only [ciLe]) _h3 (.q (Res.mk (.bool false) [] []) (by grind)))))
theorem c143 (c : UInt8) : X.call 143 [.int .u8 c.toNat] [] ⟨.bool (decide (48 ≤ c.toNat ∧ c.toNat ≤ 57)),[],[]⟩ := by
  refine spec_of ok Go.Proofs.Tryz.func143 ok143 ?_
  refine (have _u2 : c.toNat < (256 : Nat) := UInt8.toNat_lt _; .k (48 ≤ (↑c.toNat : Int)) (48 ≤ c.toNat) (by simp only [ciLe]) (fun _h3 => .et (48 ≤ (↑c.toNat : Int)) (by simp only [ciLe]) _h3
   (.et (48 ≤ (↑c.toNat : Int)) (by simp only [ciLe]) _h3 (.q (Res.mk (.bool (decide ((↑c.toNat : Int) ≤ 57))) [] []) (by (simp_all; omega)))))
   (fun _h3 => .eF (48 ≤ (↑c.toNat : Int)) (by simp only [ciLe]) _h3 (.eF (48 ≤ (↑c.toNat : Int)) (by simp only [ciLe]) _h3 (.q (Res.mk (.bool false) [] []) (by grind)))))
theorem c124 (s f : List UInt8) (hs : s.length ≤ 100000) (hf : f.length ≤ 100000) : X.call 124 [.str s,.str f] [] ⟨.bool (begins s f),[],[]⟩ := by
  refine spec_of ok Go.Proofs.Tryz.func124 ok124 ?_
  refine (.k ((↑f.length : Int) ≤ (↑s.length : Int)) (f.length ≤ s.length) (by simp only [Int.ofNat_le]) (fun _h5 => .et ((↑f.length : Int) ≤ (↑s.length : Int)) (by simp only [Int.ofNat_le]) _h5
   (.et ((↑f.length : Int) ≤ (↑s.length : Int)) (by simp only [Int.ofNat_le]) _h5 (.et ((↑f.length : Int) ≤ (↑s.length : Int)) (by simp only [Int.ofNat_le]) _h5
   (.k (0 ≤ (↑f.length : Int) ∧ (↑f.length : Int) ≤ (↑s.length : Int)) (0 ≤ f.length ∧ f.length ≤ s.length) (by simp only [Int.ofNat_le,ciLe])
   (fun _h6 => .et ((↑f.length : Int) ≤ (↑s.length : Int)) (by simp only [Int.ofNat_le]) _h5 (.et ((↑f.length : Int) ≤ (↑s.length : Int)) (by simp only [Int.ofNat_le]) _h5
   (.et ((↑f.length : Int) ≤ (↑s.length : Int)) (by simp only [Int.ofNat_le]) _h5 (.q (Res.mk (.bool (decide (List.take (↑f.length : Int).toNat s = f))) [] []) (by grind [begins])))))
   (fun _h6 => False.elim (by omega)))))) (fun _h5 => .eF ((↑f.length : Int) ≤ (↑s.length : Int)) (by simp only [Int.ofNat_le]) _h5
   (.eF ((↑f.length : Int) ≤ (↑s.length : Int)) (by simp only [Int.ofNat_le]) _h5 (.eF ((↑f.length : Int) ≤ (↑s.length : Int)) (by simp only [Int.ofNat_le]) _h5
   (.eF ((↑f.length : Int) ≤ (↑s.length : Int)) (by simp only [Int.ofNat_le]) _h5 (.eF ((↑f.length : Int) ≤ (↑s.length : Int)) (by simp only [Int.ofNat_le]) _h5
   (.eF ((↑f.length : Int) ≤ (↑s.length : Int)) (by simp only [Int.ofNat_le]) _h5 (.q (Res.mk (.bool false) [] []) (by grind [begins])))))))))
theorem c137 (s : List UInt8) (h0 : 0 < s.length) (hs : s.length ≤ 1000) : ∃ p : Word × Nat,X.call 137 [.str s] [] ⟨.tuple [encWord p.1,.int .i64 p.2],[],[]⟩ ∧ p.2 ≤ s.length ∧ p.1.S.length ≤ 1000 := by
  refine spec_ex ok Go.Proofs.Tryz.func137 ok137 ?_
  refine (.T (.bm s 0 ‹_› (fun _x4 _hx5 => have _u6 : _x4.toNat < (256 : Nat) := UInt8.toNat_lt _; .c (@Tryz.c142 (_x4)) (.i (97 ≤ _x4.toNat ∧ _x4.toNat ≤ 122) (fun _h7 => ?_) (fun _h7 => .T (.bh _hx5
   (.c (@Tryz.c143 (_x4)) (.i (48 ≤ _x4.toNat ∧ _x4.toNat ≤ 57) (fun _h8 => ?_) (fun _h8 => ?_)))))))))
  · refine SatE.pLoop 3 (St.mk [(0,.str s),(2,.ref (.head 2 0) 0 0),(4,.int .i64 0)] [(.head 2 0,.box
     (.agg [.int .i64 0,.str [],.int .i64 0,.int .i64 0]) true)]) (by kernel_rfl) (fun (n : Nat) => ⟨[(0,.str s),(2,.ref (.head 2 0) 0 0),(4,.int .i64 n)],[(.head 2 0,.box
     (.agg [.int .i64 0,.str [],.int .i64 0,.int .i64 0]) true)]⟩) (fun n => n ≤ s.length) (fun n => s.length - n) 0 rfl ?_ ?_
    · omega
    · intro n hn again
      refine (.k ((↑n : Int) < (↑s.length : Int)) (n < s.length) (by simp only [Int.ofNat_lt]) (fun _h11 => .et ((↑n : Int) < (↑s.length : Int)) (by simp only [Int.ofNat_lt]) _h11
       (.et ((↑n : Int) < (↑s.length : Int)) (by simp only [Int.ofNat_lt]) _h11 (.T (.bm s n ‹_› (fun _x12 _hx13 => .et ((↑n : Int) < (↑s.length : Int)) (by simp only [Int.ofNat_lt]) _h11
       (have _u14 : _x12.toNat < (256 : Nat) := UInt8.toNat_lt _; .c (@Tryz.c142 (_x12)) (.et ((↑n : Int) < (↑s.length : Int)) (by simp only [Int.ofNat_lt]) _h11 (.i (97 ≤ _x12.toNat ∧ _x12.toNat ≤ 122)
       (fun _h15 => have _w16 := wI64' ((↑n : Int) + (1 : Int)); .A (St.mk [(0,.str s),(2,.ref (.head 2 0) 0 0),(4,.int .i64 (IntKind.i64.wrap ((↑n : Int) + 1)))] [(.head 2 0,.box
       (.agg [.int .i64 0,.str [],.int .i64 0,.int .i64 0]) true)]) (by simp [_w16]) (again (n + (1 : Nat)) (by omega) (by omega))) (fun _h15 => .k (6 < (↑n : Int)) (6 < n) (by simp only [ciLt])
       (fun _h17 => .r (Word.mk 0 [] 0 0,0) ⟨(by dsimp only; omega),(by dsimp only; (clear again; trivial))⟩)
       (fun _h17 => .k (0 ≤ (↑n : Int) ∧ (↑n : Int) ≤ (↑s.length : Int)) (0 ≤ n ∧ n ≤ s.length) (by simp only [Int.ofNat_le,ciLe])
       (fun _h18 => .r (Word.mk 1 (List.take (↑n : Int).toNat s) 0 0,n) ⟨(by show n ≤ s.length; (clear again; trivial)),(by dsimp only; (clear again; (simp; omega)))⟩)
       (fun _h18 => False.elim (by omega)))))))))))) (fun _h11 => .eF ((↑n : Int) < (↑s.length : Int)) (by simp only [Int.ofNat_lt]) _h11
       (.eF ((↑n : Int) < (↑s.length : Int)) (by simp only [Int.ofNat_lt]) _h11 (.eF ((↑n : Int) < (↑s.length : Int)) (by simp only [Int.ofNat_lt]) _h11
       (.eF ((↑n : Int) < (↑s.length : Int)) (by simp only [Int.ofNat_lt]) _h11 (.F (.k (6 < (↑n : Int)) (6 < n) (by simp only [ciLt])
       (fun _h19 => .r (Word.mk 0 [] 0 0,0) ⟨(by dsimp only; omega),(by dsimp only; (clear again; trivial))⟩)
       (fun _h19 => .k (0 ≤ (↑n : Int) ∧ (↑n : Int) ≤ (↑s.length : Int)) (0 ≤ n ∧ n ≤ s.length) (by simp only [Int.ofNat_le,ciLe])
       (fun _h20 => .r (Word.mk 1 (List.take (↑n : Int).toNat s) 0 0,n) ⟨(by show n ≤ s.length; (clear again; trivial)),(by dsimp only; (clear again; (simp; omega)))⟩)
       (fun _h20 => False.elim (by omega))))))))))
  · refine SatE.pLoop 10 (St.mk [(0,.str s),(2,.ref (.head 2 0) 0 0),(4,.int .i64 0),(5,.int .i64 0)] [(.head 2 0,.box
     (.agg [.int .i64 0,.str [],.int .i64 0,.int .i64 0]) true)]) (by kernel_rfl) (fun (p : Nat × Int) => ⟨[(0,.str s),(2,.ref
     (.head 2 0) 0 0),(4,.int .i64 p.1),(5,.int .i64 p.2)],[(.head 2 0,.box
     (.agg [.int .i64 0,.str [],.int .i64 0,.int .i64 0]) true)]⟩) (fun p => p.1 ≤ s.length ∧ 0 ≤ p.2 ∧ p.2 ≤ 10000000 ∧ (p.1 = 0 → p.2 = 0) ∧ (p.1 = 1 → p.2 ≤ 9)) (fun p => s.length - p.1) (0,0) rfl ?_ ?_
    · exact ⟨by omega,by omega,by omega,by omega,by omega⟩
    · rintro ⟨n,v⟩ hI again
      obtain ⟨hn,hv0,hv,hv1,hv2⟩ := hI
      simp only at hn hv0 hv hv1 hv2
      refine (.k ((↑n : Int) < (↑s.length : Int)) (n < s.length) (by simp only [Int.ofNat_lt]) (fun _h18 => .et ((↑n : Int) < (↑s.length : Int)) (by simp only [Int.ofNat_lt]) _h18
       (.et ((↑n : Int) < (↑s.length : Int)) (by simp only [Int.ofNat_lt]) _h18 (.T (.bm s n ‹_› (fun _x19 _hx20 => .et ((↑n : Int) < (↑s.length : Int)) (by simp only [Int.ofNat_lt]) _h18
       (have _u21 : _x19.toNat < (256 : Nat) := UInt8.toNat_lt _; .c (@Tryz.c143 (_x19)) (.et ((↑n : Int) < (↑s.length : Int)) (by simp only [Int.ofNat_lt]) _h18 (.i (48 ≤ _x19.toNat ∧ _x19.toNat ≤ 57)
       (fun _h22 => .k ((↑n : Int) < 2) (n < 2) (by simp only [icLt]) (fun _h23 => .T (.bh _hx20
       (have _w24 := wI64' ((↑n : Int) + (1 : Int)); have _w25 := wI64' (v * (10 : Int)); have _w26 := wU8' ((↑_x19.toNat : Int) - (48 : Int)); have _w27 := wI64' ((↑_x19.toNat : Int) - (48 : Int)); have _w28 := wI64' (v * (10 : Int) + ((↑_x19.toNat : Int) - (48 : Int))); .A (St.mk [(0,.str s),(2,.ref
       (.head 2 0) 0 0),(4,.int .i64 (IntKind.i64.wrap ((↑n : Int) + 1))),(5,.int .i64 (IntKind.i64.wrap (IntKind.i64.wrap (v * 10) + IntKind.i64.wrap (IntKind.u8.wrap ((↑_x19.toNat : Int) - 48)))))] [(.head 2 0,.box
       (.agg [.int .i64 0,.str [],.int .i64 0,.int .i64 0]) true)]) (by simp [_w28,_w27,_w26,_w25,_w24]) (again ((n + (1 : Nat),v * (10 : Int) + ((↑_x19.toNat : Int) - (48 : Int)))) ⟨(by dsimp only; omega),⟨(by dsimp only; omega),⟨(by dsimp only; omega),⟨(by dsimp only; omega),(by dsimp only; omega)⟩⟩⟩⟩ (by dsimp only; omega)))))
       (fun _h23 => have _w29 := wI64' ((↑n : Int) + (1 : Int)); .A (St.mk [(0,.str s),(2,.ref (.head 2 0) 0 0),(4,.int .i64 (IntKind.i64.wrap ((↑n : Int) + 1))),(5,.int .i64 v)] [(.head 2 0,.box
       (.agg [.int .i64 0,.str [],.int .i64 0,.int .i64 0]) true)]) (by simp [_w29]) (again ((n + (1 : Nat),v)) ⟨(by dsimp only; omega),⟨(by show (0 : Int) ≤ v; omega),⟨(by dsimp only; omega),⟨(by dsimp only; omega),(by dsimp only; omega)⟩⟩⟩⟩ (by dsimp only; omega))))
       (fun _h22 => .k (2 < (↑n : Int)) (2 < n) (by simp only [ciLt]) (fun _h30 => .r (Word.mk 0 [] 0 0,0) ⟨(by dsimp only; omega),(by dsimp only; (clear again; trivial))⟩)
       (fun _h30 => .r (Word.mk 2 [] v 0,n) ⟨(by show n ≤ s.length; (clear again; trivial)),(by dsimp only; (clear again; trivial))⟩))))))))))
       (fun _h18 => .eF ((↑n : Int) < (↑s.length : Int)) (by simp only [Int.ofNat_lt]) _h18 (.eF ((↑n : Int) < (↑s.length : Int)) (by simp only [Int.ofNat_lt]) _h18
       (.eF ((↑n : Int) < (↑s.length : Int)) (by simp only [Int.ofNat_lt]) _h18 (.eF ((↑n : Int) < (↑s.length : Int)) (by simp only [Int.ofNat_lt]) _h18 (.F (.k (2 < (↑n : Int)) (2 < n) (by simp only [ciLt])
       (fun _h31 => .r (Word.mk 0 [] 0 0,0) ⟨(by dsimp only; omega),(by dsimp only; (clear again; trivial))⟩)
       (fun _h31 => .r (Word.mk 2 [] v 0,n) ⟨(by show n ≤ s.length; (clear again; trivial)),(by dsimp only; (clear again; trivial))⟩))))))))
  · refine SatE.pLoop 19 (St.mk [(0,.str s),(2,.ref
     (.head 2 0) 0 0),(6,.str [(40 : UInt8),(41 : UInt8),(33 : UInt8),(38 : UInt8),(124 : UInt8),(42 : UInt8),(61 : UInt8),(58 : UInt8),(45 : UInt8),(64 : UInt8),(94 : UInt8)]),(7,.int .i64 0)] [(.head 2 0,.box
     (.agg [.int .i64 0,.str [],.int .i64 0,.int .i64 0]) true)]) (by kernel_rfl) (fun (k : Nat) => ⟨[(0,.str s),(2,.ref
     (.head 2 0) 0 0),(6,.str [40,41,33,38,124,42,61,58,45,64,94]),(7,.int .i64 k)],[(.head 2 0,.box
     (.agg [.int .i64 0,.str [],.int .i64 0,.int .i64 0]) true)]⟩) (fun k => k ≤ 11) (fun k => 11 - k) 0 rfl ?_ ?_
    · omega
    · intro k hk again
      refine (.k ((↑k : Int) < 11) (k < 11) (by simp only [icLt]) (fun _h12 => .T
       (.bm ([(40 : UInt8),(41 : UInt8),(33 : UInt8),(38 : UInt8),(124 : UInt8),(42 : UInt8),(61 : UInt8),(58 : UInt8),(45 : UInt8),(64 : UInt8),(94 : UInt8)]) k ‹_› (fun _x13 _hx14 => .T (.bh _hx5
       (have _u15 : _x13.toNat < (256 : Nat) := UInt8.toNat_lt _; have _u16 : _x4.toNat < (256 : Nat) := UInt8.toNat_lt _; .k ((↑_x13.toNat : Int) = (↑_x4.toNat : Int)) (_x13 = _x4) (by simp only [Int.natCast_inj,UInt8.toNat_inj])
       (fun _h17 => .k ((0 : Int) ≤ 1 ∧ 1 ≤ (↑s.length : Int)) ((0 : Int) ≤ 1 ∧ 1 ≤ s.length) (by simp only [ciLe])
       (fun _h18 => .r (Word.mk 3 (List.take 1 s) 0 0,1) ⟨(by dsimp only; (clear again; trivial)),(by dsimp only; (clear again; (simp; omega)))⟩) (fun _h18 => False.elim (by omega)))
       (fun _h17 => have _w19 := wI64' ((↑k : Int) + (1 : Int)); .A (St.mk [(0,.str s),(2,.ref
       (.head 2 0) 0 0),(6,.str [(40 : UInt8),(41 : UInt8),(33 : UInt8),(38 : UInt8),(124 : UInt8),(42 : UInt8),(61 : UInt8),(58 : UInt8),(45 : UInt8),(64 : UInt8),(94 : UInt8)]),(7,.int .i64 (IntKind.i64.wrap ((↑k : Int) + 1)))] [(.head 2 0,.box
       (.agg [.int .i64 0,.str [],.int .i64 0,.int .i64 0]) true)]) (by simp [_w19]) (again (k + (1 : Nat)) (by omega) (by omega))))))))
       (fun _h12 => .r (Word.mk 0 [] 0 0,0) ⟨(by dsimp only; omega),(by dsimp only; (clear again; trivial))⟩))
theorem c130 (s : List UInt8) (hs : s.length ≤ 100000) : ∃ p : List Word × Int × Bool,X.call 130 [.str s] [] ⟨.tuple [.tree (p.1.map encWord),.int .i64 p.2.1,.bool p.2.2],[],[]⟩ ∧ p.1.length ≤ 60 ∧ (∀ w ∈ p.1,w.S.length ≤ 1000) ∧ (p.2.2 = true → s.length ≤ 80) := by
  refine spec_ex ok Go.Proofs.Tryz.func130 ok130 ?_
  refine (.k (80 < (↑s.length : Int)) (80 < s.length) (by simp only [ciLt]) (fun _h3 => .r ([],0,false) ⟨(by dsimp only; trivial),⟨(by dsimp only; trivial),(by dsimp only; simp)⟩⟩) (fun _h3 => ?_))
  refine SatE.pLoop 5 (St.mk [(0,.str s),(5,.sref (.head 5 0) 0 0),(6,.int .i64 0)] [(.head 5 0,.row 4 [] true true)]) (by kernel_rfl) (fun (p : Nat × List Word) => ⟨[(0,.str s),(5,.sref
   (.head 5 0) 0 p.2.length),(6,.int .i64 p.1)],[(.head 5 0,.row 4 (p.2.map encWord) true true)]⟩) (fun p => p.1 ≤ s.length ∧ p.2.length ≤ 60 ∧ (∀ w ∈ p.2,w.S.length ≤ 1000)) (fun p => s.length - p.1) (0,[]) rfl ?_ ?_
  · exact ⟨by simp,by simp,by simp⟩
  · rintro ⟨k,out⟩ hI again
    obtain ⟨hk,ho,hw⟩ := hI
    simp only at hk ho hw
    refine (.k ((↑k : Int) < (↑s.length : Int)) (k < s.length) (by simp only [Int.ofNat_lt]) (fun _h11 => .T (.bm s k ‹_›
     (fun _x12 _hx13 => have _u14 : _x12.toNat < (256 : Nat) := UInt8.toNat_lt _; .k ((↑_x12.toNat : Int) = 32) (_x12.toNat = 32) (by simp only [icEq])
     (fun _h15 => have _w16 := wI64' ((↑k : Int) + (1 : Int)); .A (St.mk [(0,.str s),(5,.sref
     (.head 5 0) 0 out.length),(6,.int .i64 (IntKind.i64.wrap ((↑k : Int) + 1)))] [(.head 5 0,.row 4 (List.map encWord out) true true)]) (by simp [_w16]) (again ((k + (1 : Nat),out)) ⟨(by dsimp only; omega),⟨(by dsimp only; omega),(by dsimp only; omega)⟩⟩ (by dsimp only; omega)))
     (fun _h15 => .k (0 ≤ (↑k : Int) ∧ (↑k : Int) ≤ (↑s.length : Int)) (0 ≤ k ∧ k ≤ s.length) (by simp only [Int.ofNat_le,ciLe])
     (fun _h17 => Exists.elim (@Tryz.c137 (List.drop (↑k : Int).toNat s) (by (clear again; (simp; omega))) (by (clear again; (simp; omega))))
     (fun _y18 _hz19 => have _hc20 := _hz19.2.1; have _hn21 : _y18.snd ≤ s.length - k := Iff.mp (by simp only [List.length_drop,Int.toNat_natCast]) _hc20; have _hc22 := _hz19.2.2; .c _hz19.1
     (.k ((↑_y18.snd : Int) = 0) (_y18.snd = 0) (by simp only [icEq]) (fun _h23 => .et ((↑_y18.snd : Int) = 0) (by simp only [icEq]) _h23 (.et ((↑_y18.snd : Int) = 0) (by simp only [icEq]) _h23
     (.et ((↑_y18.snd : Int) = 0) (by simp only [icEq]) _h23 (.T (.r ([],(↑k : Int),false) ⟨(by dsimp only; (clear again; trivial)),⟨(by dsimp only; (clear again; trivial)),(by dsimp only; omega)⟩⟩)))))
     (fun _h23 => .eF ((↑_y18.snd : Int) = 0) (by simp only [icEq]) _h23 (.eF ((↑_y18.snd : Int) = 0) (by simp only [icEq]) _h23 (.eF ((↑_y18.snd : Int) = 0) (by simp only [icEq]) _h23
     (.k (60 ≤ (↑out.length : Int)) (60 ≤ out.length) (by simp only [ciLe])
     (fun _h24 => .r ([],(↑k : Int),false) ⟨(by dsimp only; (clear again; trivial)),⟨(by dsimp only; (clear again; trivial)),(by dsimp only; omega)⟩⟩)
     (fun _h24 => .i ((out.length + 1) * (40 : Nat) ≤ 140737488355328) (fun _h25 => .k (out.length = (List.map encWord out).length) (True) (by simp only [List.length_map])
     (fun _h26 => have _w27 := wI64' ((↑k : Int) + (↑_y18.snd : Int)); .A (St.mk [(0,.str s),(5,.sref
     (.head 5 0) 0 (out.length + 1)),(6,.int .i64 (IntKind.i64.wrap ((↑k : Int) + (↑_y18.snd : Int))))] [(.head 5 0,.row 4 (List.map encWord out ++ [.agg [.int .i64 _y18.fst.Kind,.str _y18.fst.S,.int .i64 _y18.fst.N,.int .i64 (↑k : Int)]]) true true)]) (by simp [encWord,_w27]) (again ((k + _y18.snd,out ++ [Word.mk _y18.fst.Kind _y18.fst.S _y18.fst.N (↑k : Int)])) ⟨(by dsimp only; omega),⟨(by dsimp only; (clear again; (simp; omega))),(by dsimp only; (clear again; (intro w hw2; rcases List.mem_append.1 hw2 with h | h; exact hw w h; simp only [List.mem_singleton] at h; subst h; dsimp only; omega)))⟩⟩ (by dsimp only; omega)))
     (fun _h26 => (_h26 trivial).elim)) (fun _h25 => False.elim (by omega)))))))))) (fun _h17 => False.elim (by omega))))))
     (fun _h11 => have _w28 : List.take out.length (List.map encWord out) = List.map encWord out := List.take_of_length_le (by simp); .q (Res.mk (AV.tuple [.tree (List.take out.length (List.map encWord out)),.int .i64 0,.bool true]) [] []) ⟨(out,(0 : Int),Bool.true),(by simp only [_w28]),⟨(by dsimp only; (clear again; trivial)),⟨(by dsimp only; (clear again; trivial)),(by dsimp only; omega)⟩⟩⟩))
theorem deep_loop (args : List Flt) (o k l h : Int) (t : List UInt8) (hl : args.length ≤ 10) (hd1 : ∀ a ∈ args,a.deep ≤ 100000) (hd : ∀ a,a ∈ args → X.call 133 [encFlt a] [] ⟨.int .i64 a.deep,[],[]⟩) :
    X.call 133 [.agg [.int .i64 o,.int .i64 k,.int .i64 l,.int .i64 h,.str t,.tree (args.map encFlt)]] [] ⟨.int .i64 (1 + (args.map Flt.deep).foldl max 0 : Nat),[],[]⟩ := by
  refine spec_of ok Go.Proofs.Tryz.func133 ok133 ?_
  refine ?_
  refine Sat.pLoop 3 (St.mk [(1,.ref (.head 1 0) 0 0),(3,.int .i64 0),(4,.int .i64 0)] [(.head 1 0,.box
   (.agg [.int .i64 o,.int .i64 k,.int .i64 l,.int .i64 h,.str t,.tree (List.map encFlt args)]) true)]) (by kernel_rfl) (fun (p : Nat) => ⟨[(1,.ref
   (.head 1 0) 0 0),(3,.int .i64 (((args.take p).map Flt.deep).foldl max 0 : Nat)),(4,.int .i64 p)],[(.head 1 0,.box
   (.agg [.int .i64 o,.int .i64 k,.int .i64 l,.int .i64 h,.str t,.tree (args.map encFlt)]) true)]⟩) (fun p => p ≤ args.length ∧ ((args.take p).map Flt.deep).foldl max 0 ≤ 100000) (fun p => args.length - p) 0 rfl ?_ ?_
  · exact ⟨by simp,by simp⟩
  · intro p hI again
    have hp := hI.1
    have hq := hI.2
    refine (.kl encFlt args p (fun _h15 => .T (.em encFlt args p ‹_›
     (fun _x16 _hx17 => have _hc18 := (hd1 _x16 (List.mem_of_getElem? _hx17)); have _hc19 := (hd _x16 (List.mem_of_getElem? _hx17)); .c (@hd (_x16) (by (clear hd again _hc19; (exact List.mem_of_getElem? ‹_›))))
     (have _w20 := wI64' ((↑p : Int) + (1 : Int)); .A (St.mk [(1,.ref
     (.head 1 0) 0 0),(3,.int .i64 (if (↑_x16.deep : Int) > (↑(List.foldl Max.max 0 (List.map Flt.deep (List.take p args))) : Int) then (↑_x16.deep : Int) else (↑(List.foldl Max.max 0 (List.map Flt.deep (List.take p args))) : Int))),(4,.int .i64 (IntKind.i64.wrap ((↑p : Int) + 1)))] [(.head 1 0,.box
     (.agg [.int .i64 o,.int .i64 k,.int .i64 l,.int .i64 h,.str t,.tree (List.map encFlt args)]) true)]) (by (clear hd again _hc19; (rw [take_succ ‹_›]; simp; split <;> omega))) (again (p + (1 : Nat)) (by (clear hd again _hc19; (refine ⟨by omega, ?_⟩; rw [take_succ ‹_›]; have := hd1 _ (List.mem_of_getElem? ‹_›); simp only [List.map_append,List.map_cons,List.map_nil,List.foldl_append,List.foldl_cons,List.foldl_nil]; omega))) (by omega))))))
     (fun _h15 => have _w21 := wI64' ((1 : Int) + (↑(List.foldl Max.max (0 : Nat) (List.map Flt.deep (List.take p args))) : Int)); .q (Res.mk
     (.int .i64 (IntKind.i64.wrap (1 + (↑(List.foldl Max.max 0 (List.map Flt.deep (List.take p args))) : Int)))) [] []) (by (clear hd again; (simp only [List.take_of_length_le (show args.length ≤ p by omega)] at *; simp [*]; done)))))
theorem c133 : ∀ (f : Flt),f.deep ≤ 100000 → X.call 133 [encFlt f] [] ⟨.int .i64 f.deep,[],[]⟩
  | .leaf o k l h t,hd => by
    rw [Flt.deep_eq,encFlt_eq]
    exact deep_loop [] o k l h t (by simp) (by simp) (by simp)
  | .one a,hd => by
    simp only [Flt.deep] at hd
    have ih := c133 a (by omega)
    rw [Flt.deep_eq,encFlt_eq]
    refine deep_loop [a] 7 0 0 0 [] (by simp) (by simp; omega) (fun b hb => ?_)
    simp only [List.mem_singleton] at hb
    subst hb
    exact ih
  | .two o a b,hd => by
    simp only [Flt.deep] at hd
    have ih := c133 a (by omega)
    have ih2 := c133 b (by omega)
    rw [Flt.deep_eq,encFlt_eq]
    refine deep_loop [a,b] o 0 0 0 [] (by simp) (by simp; omega) (fun c hb => ?_)
    simp only [List.mem_cons,List.not_mem_nil,or_false] at hb
    rcases hb with rfl | rfl
    · exact ih
    · exact ih2
theorem c94 (v : Version) (hv : v.Attrs.length ≤ 100000) (ht : v.Tag.length ≤ 100000) : ∀ (f : Flt),f.ok → f.short → X.call 94 [encFlt f,encVersion v] [] ⟨.bool (f.lets v),[],[]⟩
  | .leaf o k l h t,hk,hs => by
    rw [encFlt_leaf]
    simp only [Flt.ok,Flt.short] at hk hs
    refine spec_of ok Go.Proofs.Tryz.func94 ok94 ?_
    refine (.i (o = 1) (fun _h11 => .q (Res.mk (.bool true) [] []) (by (simp_all [Flt.lets]; done))) (fun _h11 => .i (o = 2) (fun _h12 => .it _h12 (.c (@Tryz.c123 (v) (k) ‹_›)
     (.n ((attrOf v.Attrs k).isSome) (fun _h13 => .t _h13 (.t _h13 (.t _h13 (.t _h13 (.i (l ≤ (attrOf v.Attrs k).getD 0) (fun _h14 => .it _h14 (.it _h14 (.it _h14 (.it _h14 (.q (Res.mk
     (.bool (decide ((attrOf v.Attrs k).getD 0 ≤ h))) [] []) (by grind [Flt.lets])))))) (fun _h14 => .iF _h14 (.iF _h14 (.iF _h14 (.iF _h14 (.q (Res.mk (.bool false) [] []) (by grind [Flt.lets])))))))))))
     (fun _h13 => .f _h13 (.f _h13 (.f _h13 (.f _h13 (.F (.F (.F (.F (.F (.q (Res.mk (.bool false) [] []) (by (simp_all [Flt.lets]; done))))))))))))))) (fun _h12 => .i (o = 3)
     (fun _h15 => .c (@Tryz.c123 (v) (k) ‹_›) (.n ((attrOf v.Attrs k).isSome) (fun _h16 => .t _h16 (.t _h16 (.t _h16 (.t _h16 (.i (l ≤ (attrOf v.Attrs k).getD 0) (fun _h17 => .it _h17 (.it _h17 (.it _h17
     (.it _h17 (.q (Res.mk (.bool (decide ((attrOf v.Attrs k).getD 0 ≤ h))) [] []) (by grind [Flt.lets])))))) (fun _h17 => .iF _h17 (.iF _h17 (.iF _h17 (.iF _h17 (.q (Res.mk
     (.bool false) [] []) (by grind [Flt.lets]))))))))))) (fun _h16 => .f _h16 (.f _h16 (.f _h16 (.f _h16 (.F (.F (.F (.F (.F (.q (Res.mk (.bool false) [] []) (by (simp_all [Flt.lets]; done))))))))))))))
     (fun _h15 => .i (o = 4) (fun _h18 => .c (@Tryz.c124 (v.Tag) (t) ‹_› ‹_›) (.q (Res.mk (.bool (begins v.Tag t)) [] []) (by (simp_all [Flt.lets]; done)))) (fun _h18 => .i (o = 5)
     (fun _h19 => False.elim (by omega)) (fun _h19 => .i (o = 6) (fun _h20 => False.elim (by omega)) (fun _h20 => .i (o = 7) (fun _h21 => False.elim (by omega)) (fun _h21 => .q (Res.mk
     (.bool false) [] []) (by (simp_all [Flt.lets]; done))))))))))
  | .one a,hk,hs => by
    rw [encFlt_one]
    have ih := c94 v hv ht a hk hs
    refine spec_of ok Go.Proofs.Tryz.func94 ok94 ?_
    refine (.F (.F (.F (.F (.F (.F (.T (.T (Sat.pElem ([encFlt a]) ((0 : Nat)) (encFlt a) (by kernel_rfl) rfl (.c (@ih) .r))))))))))
  | .two o a b,hk,hs => by
    rw [encFlt_two]
    have ih := c94 v hv ht a hk.2.1 hs.1
    have ih2 := c94 v hv ht b hk.2.2 hs.2
    have ho := hk.1
    refine spec_of ok Go.Proofs.Tryz.func94 ok94 ?_
    refine (.i (o = 1) (fun _h12 => False.elim (by omega)) (fun _h12 => .i (o = 2) (fun _h13 => False.elim (by omega)) (fun _h13 => .i (o = 3) (fun _h14 => False.elim (by omega)) (fun _h14 => .i (o = 4)
     (fun _h15 => False.elim (by omega)) (fun _h15 => .i (o = 5) (fun _h16 => .T (Sat.pElem ([encFlt a,encFlt b]) ((0 : Nat)) (encFlt a) (by kernel_rfl) rfl (.c (@ih) (.n (Flt.lets v a)
     (fun _h17 => .t _h17 (.t _h17 (.T (Sat.pElem ([encFlt a,encFlt b]) ((1 : Nat)) (encFlt b) (by kernel_rfl) rfl (.t _h17 (.t _h17 (.t _h17 (.c (@ih2) (.t _h17 (.q (Res.mk
     (.bool (Flt.lets v b)) [] []) (by (clear ih ih2; (simp_all [Flt.lets]; done))))))))))))) (fun _h17 => .f _h17 (.f _h17 (.f _h17 (.f _h17 (.f _h17 (.f _h17 (.q (Res.mk
     (.bool false) [] []) (by (clear ih ih2; (simp_all [Flt.lets]; done)))))))))))))) (fun _h16 => .i (o = 6) (fun _h18 => .T (Sat.pElem ([encFlt a,encFlt b]) ((0 : Nat)) (encFlt a) (by kernel_rfl) rfl
     (.c (@ih) (.n (Flt.lets v a) (fun _h19 => .t _h19 (.t _h19 (.t _h19 (.t _h19 (.t _h19 (.t _h19 (.q (Res.mk (.bool true) [] []) (by (clear ih ih2; (simp_all [Flt.lets]; done))))))))))
     (fun _h19 => .f _h19 (.f _h19 (.T (Sat.pElem ([encFlt a,encFlt b]) ((1 : Nat)) (encFlt b) (by kernel_rfl) rfl (.f _h19 (.f _h19 (.f _h19 (.c (@ih2) (.f _h19 (.q (Res.mk
     (.bool (Flt.lets v b)) [] []) (by (clear ih ih2; (simp_all [Flt.lets]; done))))))))))))))))) (fun _h18 => False.elim (by omega))))))))
end Go.Ab.Tryz
