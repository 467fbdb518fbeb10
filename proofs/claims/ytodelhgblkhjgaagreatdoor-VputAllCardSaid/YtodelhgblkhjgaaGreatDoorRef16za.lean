/- Package cardamomref16: its reader, of what was put. -/
import Derived.Test.YtodelhgblkhjgaaGreatDoorRef16z
namespace Go.Ab.Tryz
open Go
set_option maxRecDepth 100000
set_option maxHeartbeats 4000000
theorem rTakeText_ex (b : List UInt8) (hb : b.length ≤ 100000) : ∃ p : List UInt8 × Nat × Bool, X.call 35 [.tree (b.map encB)] [] ⟨.tuple [.str p.1, .int .i64 p.2.1, .bool p.2.2], [], []⟩ ∧ IsText b p.1 p.2.1 p.2.2 ∧ p.2.1 ≤ b.length := by
  obtain ⟨⟨v, n, o⟩, hc, h1, h3⟩ := rTakeNum_ex b hb
  simp only at hc h1 h3
  cases o with
  | false =>
    have e := text_no1 h1
    refine ⟨([], 0, false), ?_, e, by simp⟩
    refine spec_of ok Go.Proofs.Tryz.func35 ok35 ?_
    refine (Sat.pCallE 34 ([AV.tree (List.map encB b)]) ([]) (by kernel_rfl) rfl rfl (@hc) (Sat.pNodeT true (by kernel_rfl) rfl (Sat.pNodeT true (by kernel_rfl) rfl (Sat.pNodeT true (by kernel_rfl) rfl
     (Sat.pNodeT true (by kernel_rfl) rfl (Sat.pNodeT true (by kernel_rfl) rfl (Sat.pNodeT true (by kernel_rfl) rfl (Sat.pNodeT true (by kernel_rfl) rfl (Sat.pNodeT true (by kernel_rfl) rfl
     (Sat.pRet (Res.mk (AV.tuple [AV.str [], AV.int IntKind.i64 (0 : Int), AV.bool Bool.false]) [] []) (by kernel_rfl) rfl))))))))))
  | true =>
    by_cases hv : b.length - n < v
    · have e := text_no2 h1 hv
      refine ⟨([], 0, false), ?_, e, by simp⟩
      refine spec_of ok Go.Proofs.Tryz.func35 ok35 ?_
      refine (Sat.pCallE 34 ([AV.tree (List.map encB b)]) ([]) (by kernel_rfl) rfl rfl (@hc) (Sat.pNodeF false (by kernel_rfl) rfl (Sat.pNodeF false (by kernel_rfl) rfl (Sat.pNodeF false (by kernel_rfl) rfl
       (Sat.pNodeF false (by kernel_rfl) rfl (Sat.pNodeF false (by kernel_rfl) rfl (Sat.pNodeF false (by kernel_rfl) rfl (Sat.pNodeF false (by kernel_rfl) rfl
       (have _w13 : IntKind.i64.wrap ((↑b.length : Int) - (↑n : Int)) = (↑b.length : Int) - (↑n : Int) := wI64 (by omega) (by omega);
       (Sat.pIfE (IntKind.i64.wrap ((↑(List.map encB b).length : Int) - (↑n : Int)) < (↑v : Int)) ((↑b.length : Int) - (↑n : Int) < (↑v : Int)) (by kernel_rfl) (by simp only [List.length_map, _w13])
       (fun _h14 => (Sat.pRet (Res.mk (AV.tuple [AV.str [], AV.int IntKind.i64 (0 : Int), AV.bool Bool.false]) [] []) (by kernel_rfl) rfl)) (fun _h14 => False.elim (by omega))))))))))))
    · have e := text_ok h1 (by omega)
      refine ⟨((b.take (n + v)).drop n, n + v, true), ?_, e, by simp only; omega⟩
      refine spec_of ok Go.Proofs.Tryz.func35 ok35 ?_
      refine (Sat.pCallE 34 ([AV.tree (List.map encB b)]) ([]) (by kernel_rfl) rfl rfl (@hc) (Sat.pNodeF false (by kernel_rfl) rfl (Sat.pNodeF false (by kernel_rfl) rfl (Sat.pNodeF false (by kernel_rfl) rfl
       (Sat.pNodeF false (by kernel_rfl) rfl (Sat.pNodeF false (by kernel_rfl) rfl (Sat.pNodeF false (by kernel_rfl) rfl (Sat.pNodeF false (by kernel_rfl) rfl
       (have _w13 : IntKind.i64.wrap ((↑b.length : Int) - (↑n : Int)) = (↑b.length : Int) - (↑n : Int) := wI64 (by omega) (by omega);
       (Sat.pIfE (IntKind.i64.wrap ((↑(List.map encB b).length : Int) - (↑n : Int)) < (↑v : Int)) ((↑b.length : Int) - (↑n : Int) < (↑v : Int)) (by kernel_rfl) (by simp only [List.length_map, _w13])
       (fun _h14 => False.elim (by omega)) (fun _h14 => (Sat.pEszM (encB) (b) (List.map encB b) (1) (by kernel_rfl) rfl (fun _ => rfl)
       (have _w15 : IntKind.i64.wrap ((↑n : Int) + (↑v : Int)) = (↑n : Int) + (↑v : Int) := wI64 (by omega) (by omega);
       (Sat.pIfE ((0 : Int) ≤ IntKind.i64.wrap ((↑n : Int) + (↑v : Int)) ∧ IntKind.i64.wrap ((↑n : Int) + (↑v : Int)) ≤ (↑(List.map encB b).length : Int)) ((0 : Int) ≤ (↑n : Int) + (↑v : Int) ∧ (↑n : Int) + (↑v : Int) ≤ (↑b.length : Int)) (by kernel_rfl) (by simp only [List.length_map, _w15])
       (fun _h16 =>
       (Sat.pIfE ((0 : Int) ≤ (↑n : Int) ∧ (↑n : Int) ≤ (↑(IntKind.i64.wrap ((↑n : Int) + (↑v : Int))).toNat : Int)) ((0 : Nat) ≤ n ∧ n ≤ ((↑n : Int) + (↑v : Int)).toNat) (by kernel_rfl) (by simp only [Int.ofNat_le, ciLe, _w15])
       (fun _h17 =>
       (Sat.pEszM (encB) (List.drop (↑n : Int).toNat (List.take ((↑n : Int) + (↑v : Int)).toNat b)) (List.drop (↑n : Int).toNat (List.take (IntKind.i64.wrap ((↑n : Int) + (↑v : Int))).toNat (List.map encB b))) (1) (by kernel_rfl) (by simp [_w15])
       (fun _ => rfl)
       (Sat.pBytes (List.drop (↑n : Int).toNat (List.take (IntKind.i64.wrap ((↑n : Int) + (↑v : Int))).toNat (List.map encB b))) (List.drop (↑n : Int).toNat (List.take ((↑n : Int) + (↑v : Int)).toNat b)) (by kernel_rfl) (by simp [encB_fun, _w15])
       (Sat.pRet (Res.mk (AV.tuple [AV.str (List.drop (↑n : Int).toNat (List.take ((↑n : Int) + (↑v : Int)).toNat b)), AV.int IntKind.i64 (IntKind.i64.wrap ((↑n : Int) + (↑v : Int))), AV.bool Bool.true]) [] []) (by kernel_rfl) ?_))))
       (fun _h17 => False.elim (by omega)))) (fun _h16 => False.elim (by omega))))))))))))))))
      simp only [_w15, Int.toNat_natCast, show ((n : Int) + (v : Int)).toNat = n + v by omega, Int.natCast_add]
theorem rnum_yes (B rest : List UInt8) (hb : B.length ≤ 100000) (n : Int) (h0 : 0 ≤ n) (hn : n ≤ 1000000000) (e : B = numB n.toNat ++ rest) : X.call 19 [.ref (.inc 0) 0 0] [.box (.agg [.tree (B.map encB), .bool false]) true] ⟨.int .i64 n, [.box (.agg [.tree (rest.map encB), .bool false]) true], []⟩ := by
  obtain ⟨z, rfl⟩ := Int.eq_ofNat_of_zero_le h0
  obtain ⟨⟨v, m, ok⟩, hc, h1, h3⟩ := rTakeNum_ex B hb
  simp only at hc h1 h3
  simp only [Int.toNat_natCast] at e
  obtain ⟨rfl, rfl, rfl⟩ := isNum_yes h1 (by omega) e h3
  have hd : rest = B.drop (numB v).length := by rw [e]; simp
  rw [hd]
  refine spec_of ok Go.Proofs.Tryz.func19 ok19 ?_
  refine (Sat.pCallE 34 ([AV.tree (List.map encB B)]) ([]) (by kernel_rfl) rfl rfl (@hc) (Sat.pNodeF false (by kernel_rfl) rfl (Sat.pNodeF false (by kernel_rfl) rfl
   (Sat.pEszM (encB) (B) (List.map encB B) (1) (by kernel_rfl) rfl (fun _ => rfl)
   (Sat.pIfE ((0 : Int) ≤ (↑(numB v).length : Int) ∧ (↑(numB v).length : Int) ≤ (↑(List.map encB B).length : Int)) ((0 : Nat) ≤ (numB v).length ∧ (numB v).length ≤ B.length) (by kernel_rfl) (by simp only [List.length_map, Int.ofNat_le, ciLe])
   (fun _h29 =>
   (Sat.pRet (Res.mk (AV.int IntKind.i64 (↑v : Int)) [Blk.box (AV.agg [AV.tree (List.drop (↑(numB v).length : Int).toNat (List.map encB B)), AV.bool Bool.false]) Bool.true] []) (by kernel_rfl) (by (clear hc; (simp [List.map_drop]; done)))))
   (fun _h29 => False.elim (by omega)))))))
theorem rtext_yes (B rest : List UInt8) (hb : B.length ≤ 100000) (s : List UInt8) (hs : s.length ≤ 1000) (e : B = textB s ++ rest) : X.call 20 [.ref (.inc 0) 0 0] [.box (.agg [.tree (B.map encB), .bool false]) true] ⟨.str s, [.box (.agg [.tree (rest.map encB), .bool false]) true], []⟩ := by
  obtain ⟨⟨v, m, ok⟩, hc, h1, h3⟩ := rTakeText_ex B hb
  simp only at hc h1 h3
  obtain ⟨rfl, rfl, rfl⟩ := isText_yes h1 hs e h3
  have hd : rest = B.drop (textB v).length := by rw [e]; simp
  rw [hd]
  refine spec_of ok Go.Proofs.Tryz.func20 ok20 ?_
  refine (Sat.pCallE 35 ([AV.tree (List.map encB B)]) ([]) (by kernel_rfl) rfl rfl (@hc) (Sat.pNodeF false (by kernel_rfl) rfl (Sat.pNodeF false (by kernel_rfl) rfl
   (Sat.pEszM (encB) (B) (List.map encB B) (1) (by kernel_rfl) rfl (fun _ => rfl)
   (Sat.pIfE ((0 : Int) ≤ (↑(textB v).length : Int) ∧ (↑(textB v).length : Int) ≤ (↑(List.map encB B).length : Int)) ((0 : Nat) ≤ (textB v).length ∧ (textB v).length ≤ B.length) (by kernel_rfl) (by simp only [List.length_map, Int.ofNat_le, ciLe])
   (fun _h23 =>
   (Sat.pRet (Res.mk (AV.str v) [Blk.box (AV.agg [AV.tree (List.drop (↑(textB v).length : Int).toNat (List.map encB B)), AV.bool Bool.false]) Bool.true] []) (by kernel_rfl) (by (clear hc; (simp [List.map_drop]; done)))))
   (fun _h23 => False.elim (by omega)))))))
theorem takeV_yes (v : Version) (h : v.may = true) (rest : List UInt8) (hr : rest.length ≤ 9000) : X.call 9 [.tree ((putVers [] v ++ rest).map encB)] [] ⟨.tuple [encVersion v, .int .i64 ((putVers [] v).length : Nat), .bool true], [], []⟩ := by
  have f := Version.may_fit h
  have hlen := putVers_len [] v
  obtain ⟨b, hb⟩ : ∃ b, b = putVers [] v ++ rest := ⟨_, rfl⟩
  have hbl : b.length ≤ 10000 := by rw [hb]; simp only [List.length_append, List.length_nil] at hlen ⊢; omega
  have hlp : (putVers [] v).length ≤ b.length := by rw [hb]; simp
  have htk : b.take (putVers [] v).length = putVers [] v := by rw [hb]; simp
  rw [← hb]
  have e := hb
  simp only [putVers, h, if_true, versB, List.nil_append, List.append_assoc] at e
  have hrl : b.length - rest.length = (putVers [] v).length := by rw [hb]; simp
  have hrb : rest.length ≤ b.length := by rw [hb]; simp
  clear hb
  obtain ⟨I, ⟨L, R, N⟩, D, A, T, Y⟩ := v
  have hi0 := f.i0; have hi1 := f.i1; have hl0 := f.l0; have hl1 := f.l1; have hr0 := f.r0; have hr1 := f.r1; have hn0 := f.n0; have hn1 := f.n1; have hal := f.al; have htl := f.tl; have hyl := f.bl; have hav := f.av
  simp only at hi0 hi1 hl0 hl1 hr0 hr1 hn0 hn1 hal htl hyl hav e
  obtain ⟨b8, hb8⟩ : ∃ b8, b8 = textB Y ++ rest := ⟨_, rfl⟩
  obtain ⟨b7, hb7⟩ : ∃ b7, b7 = textB T ++ b8 := ⟨_, rfl⟩
  obtain ⟨b6, hb6⟩ : ∃ b6, b6 = attrsB A ++ b7 := ⟨_, rfl⟩
  obtain ⟨b5, hb5⟩ : ∃ b5, b5 = numB A.length ++ b6 := ⟨_, rfl⟩
  obtain ⟨b4, hb4⟩ : ∃ b4, b4 = numB D.toNat ++ b5 := ⟨_, rfl⟩
  obtain ⟨b3, hb3⟩ : ∃ b3, b3 = numB N.toNat ++ b4 := ⟨_, rfl⟩
  obtain ⟨b2, hb2⟩ : ∃ b2, b2 = numB R.toNat ++ b3 := ⟨_, rfl⟩
  obtain ⟨b1, hb1⟩ : ∃ b1, b1 = numB L.toNat ++ b2 := ⟨_, rfl⟩
  rw [← hb8, ← hb7, ← hb6, ← hb5, ← hb4, ← hb3, ← hb2, ← hb1] at e
  have g0 := congrArg List.length e; have g1 := congrArg List.length hb1; have g2 := congrArg List.length hb2; have g3 := congrArg List.length hb3; have g4 := congrArg List.length hb4; have g5 := congrArg List.length hb5; have g6 := congrArg List.length hb6; have g7 := congrArg List.length hb7; have g8 := congrArg List.length hb8
  simp only [List.length_append] at g0 g1 g2 g3 g4 g5 g6 g7 g8
  have c1 := rnum_yes b b1 (by omega) I (by omega) (by omega) e
  have c2 := rnum_yes b1 b2 (by omega) L (by omega) (by omega) hb1
  have c3 := rnum_yes b2 b3 (by omega) R (by omega) (by omega) hb2
  have c4 := rnum_yes b3 b4 (by omega) N (by omega) (by omega) hb3
  have c5 := rnum_yes b4 b5 (by omega) D.toNat (by omega) (by cases D <;> simp) hb4
  have c6 := rnum_yes b5 b6 (by omega) A.length (by omega) (by omega) hb5
  have ct := rtext_yes b7 b8 (by omega) T (by omega) hb7
  have cy := rtext_yes b8 rest (by omega) Y (by omega) hb8
  have hcut : ∀ (k : Nat) (a : Attr), A[k]? = some a → attrsB (A.drop k) ++ b7 = numB a.Key.toNat ++ (numB a.Val.toNat ++ (attrsB (A.drop (k + 1)) ++ b7)) := fun k a ha => by
    rw [drop_at ha]; unfold attrsB; simp
  have hsm : ∀ k, (attrsB (A.drop k) ++ b7).length ≤ 100000 := fun k => by
    have h1 := attrsB_len (l := A.drop k) (fun a ha => hav a (List.mem_of_mem_drop ha))
    rw [List.length_drop] at h1
    rw [List.length_append]; omega
  have ck : ∀ (k : Nat) (a : Attr), A[k]? = some a → _ := fun k a ha => rnum_yes (attrsB (A.drop k) ++ b7) (numB a.Val.toNat ++ (attrsB (A.drop (k + 1)) ++ b7)) (hsm k) a.Key (hav a (List.mem_of_getElem? ha)).1 (by have := hav a (List.mem_of_getElem? ha); omega) (hcut k a ha)
  have cv : ∀ (k : Nat) (a : Attr), A[k]? = some a → _ := fun k a ha => rnum_yes (numB a.Val.toNat ++ (attrsB (A.drop (k + 1)) ++ b7)) (attrsB (A.drop (k + 1)) ++ b7) (by have h1 := congrArg List.length (hcut k a ha); have h2 := hsm k; simp only [List.length_append] at h1 h2 ⊢; omega) a.Val (hav a (List.mem_of_getElem? ha)).2.2.1 (by have := hav a (List.mem_of_getElem? ha); omega) rfl
  clear hcut e hb1 hb2 hb3 hb4 hb5 hb7 hb8 f g0 g1 g2 g3 g4 g5 g7 g8
  have hD : (!decide ((D.toNat : Int) = 0)) = D := by cases D <;> rfl
  have hmay : (Version.mk I ⟨L, R, N⟩ (!decide ((D.toNat : Int) = 0)) A T Y).may = true := by rw [hD]; exact h
  have hput : putVers [] ⟨I, ⟨L, R, N⟩, !decide ((D.toNat : Int) = 0), A, T, Y⟩ = b.take (b.length - rest.length) := by rw [hD, hrl]; exact htk.symm
  have hsz : ((b.length : Int) - rest.length).toNat = b.length - rest.length := by omega
  have hfin : ((b.length : Int) - rest.length) = (((putVers [] ⟨I, ⟨L, R, N⟩, D, A, T, Y⟩).length : Nat) : Int) := by omega
  by_cases hA : A = []
  · subst hA
    have e6 : b6 = b7 := by rw [hb6]; simp [attrsB]
    subst e6
    clear ck cv hb6 hsm hav hal hlen htk hrl hlp h
    refine spec_of ok Go.Proofs.Tryz.func9 ok9 ?_
    refine (Sat.pCallE 19 ([AV.ref (Site.inc (0 : Nat)) (0 : Nat) (0 : Nat)]) ([Blk.box (AV.agg [AV.tree (List.map encB b), AV.bool Bool.false]) Bool.true]) (by kernel_rfl) rfl rfl (@c1)
     (Sat.pCallE 19 ([AV.ref (Site.inc (0 : Nat)) (0 : Nat) (0 : Nat)]) ([Blk.box (AV.agg [AV.tree (List.map encB b1), AV.bool Bool.false]) Bool.true]) (by kernel_rfl) rfl rfl (@c2)
     (Sat.pCallE 19 ([AV.ref (Site.inc (0 : Nat)) (0 : Nat) (0 : Nat)]) ([Blk.box (AV.agg [AV.tree (List.map encB b2), AV.bool Bool.false]) Bool.true]) (by kernel_rfl) rfl rfl (@c3)
     (Sat.pCallE 19 ([AV.ref (Site.inc (0 : Nat)) (0 : Nat) (0 : Nat)]) ([Blk.box (AV.agg [AV.tree (List.map encB b3), AV.bool Bool.false]) Bool.true]) (by kernel_rfl) rfl rfl (@c4)
     (Sat.pCallE 19 ([AV.ref (Site.inc (0 : Nat)) (0 : Nat) (0 : Nat)]) ([Blk.box (AV.agg [AV.tree (List.map encB b4), AV.bool Bool.false]) Bool.true]) (by kernel_rfl) rfl rfl (@c5)
     (Sat.pCallE 19 ([AV.ref (Site.inc (0 : Nat)) (0 : Nat) (0 : Nat)]) ([Blk.box (AV.agg [AV.tree (List.map encB b5), AV.bool Bool.false]) Bool.true]) (by kernel_rfl) rfl rfl (@c6) ?_))))))
    refine Sat.pUnroll 8 (St.mk [((0 : Nat), AV.tree (List.map encB b)), ((2 : Nat), AV.ref (Site.head (2 : Nat) (0 : Nat)) (0 : Nat) (0 : Nat)), ((5 : Nat), AV.ref (Site.head (5 : Nat) (0 : Nat)) (0 : Nat) (0 : Nat)), ((6 : Nat), AV.ref (Site.head (6 : Nat) (0 : Nat)) (0 : Nat) (0 : Nat)), ((7 : Nat), AV.int IntKind.i64 (0 : Int))] [(Site.head (2 : Nat) (0 : Nat), Blk.box (AV.agg [AV.int IntKind.i64 (0 : Int), AV.int IntKind.i64 (0 : Int), AV.int IntKind.i64 (0 : Int), AV.int IntKind.i64 (0 : Int), AV.bool Bool.false, AV.nils, AV.str [], AV.str []]) Bool.true), (Site.head (5 : Nat) (0 : Nat), Blk.box (AV.agg [AV.tree (List.map encB b6), AV.bool Bool.false]) Bool.true), (Site.head (6 : Nat) (0 : Nat), Blk.box (AV.agg [AV.int IntKind.i64 I, AV.int IntKind.i64 L, AV.int IntKind.i64 R, AV.int IntKind.i64 N, AV.bool !decide ((↑D.toNat : Int) = (0 : Int)), AV.nils, AV.str [], AV.str []]) Bool.true)]) (by kernel_rfl) ?_
    refine (Sat.pNodeF false (by kernel_rfl) rfl (Sat.pNodeF false (by kernel_rfl) rfl (Sat.pNodeF false (by kernel_rfl) rfl (Sat.pNodeF false (by kernel_rfl) rfl (Sat.pNodeF false (by kernel_rfl) rfl
     (Sat.pNodeF false (by kernel_rfl) rfl (Sat.pNodeF false (by kernel_rfl) rfl
     (Sat.pCallE 20 ([AV.ref (Site.inc (0 : Nat)) (0 : Nat) (0 : Nat)]) ([Blk.box (AV.agg [AV.tree (List.map encB b6), AV.bool Bool.false]) Bool.true]) (by kernel_rfl) rfl rfl (@ct)
     (Sat.pCallE 20 ([AV.ref (Site.inc (0 : Nat)) (0 : Nat) (0 : Nat)]) ([Blk.box (AV.agg [AV.tree (List.map encB b8), AV.bool Bool.false]) Bool.true]) (by kernel_rfl) rfl rfl (@cy)
     (Sat.pNodeF false (by kernel_rfl) rfl (Sat.pNodeF false (by kernel_rfl) rfl
     (Sat.pCallE 21 ([AV.agg [AV.int IntKind.i64 I, AV.int IntKind.i64 L, AV.int IntKind.i64 R, AV.int IntKind.i64 N, AV.bool !decide ((↑D.toNat : Int) = (0 : Int)), AV.tree [], AV.str T, AV.str Y]]) ([]) (by kernel_rfl) rfl rfl (@Go.Ab.Tryz.c21 (Version.mk I (Stamp.mk L R N) (!decide ((↑D.toNat : Int) = (0 : Int))) [] T Y) (by show (0 : Nat) ≤ (100000 : Nat); omega) (by show T.length ≤ (100000 : Nat); omega) (by show Y.length ≤ (100000 : Nat); omega))
     (Sat.pNodeF false (by kernel_rfl) rfl (Sat.pNodeF false (by kernel_rfl) rfl
     (Sat.pNodeF (!(Version.mk I (Stamp.mk L R N) (!decide ((↑D.toNat : Int) = (0 : Int))) [] T Y).may) (by kernel_rfl) (by rw [hmay]; rfl)
     (have _w121 : IntKind.i64.wrap ((↑b.length : Int) - (↑rest.length : Int)) = (↑b.length : Int) - (↑rest.length : Int) := wI64 (by omega) (by omega);
     (Sat.pIfE ((0 : Int) ≤ IntKind.i64.wrap ((↑(List.map encB b).length : Int) - (↑(List.map encB rest).length : Int)) ∧ IntKind.i64.wrap ((↑(List.map encB b).length : Int) - (↑(List.map encB rest).length : Int)) ≤ (↑(List.map encB b).length : Int)) ((0 : Int) ≤ (↑b.length : Int) - (↑rest.length : Int) ∧ (↑b.length : Int) - (↑rest.length : Int) ≤ (↑b.length : Int)) (by kernel_rfl) (by simp only [List.length_map, _w121])
     (fun _h122 =>
     (Sat.pEszM (encB) (List.take ((↑b.length : Int) - (↑rest.length : Int)).toNat b) (List.take (IntKind.i64.wrap ((↑(List.map encB b).length : Int) - (↑(List.map encB rest).length : Int))).toNat (List.map encB b)) (1) (by kernel_rfl) (by simp [_w121])
     (fun _ => rfl)
     (Sat.pBytes (List.take (IntKind.i64.wrap ((↑(List.map encB b).length : Int) - (↑(List.map encB rest).length : Int))).toNat (List.map encB b)) (List.take ((↑b.length : Int) - (↑rest.length : Int)).toNat b) (by kernel_rfl) (by simp [encB_fun, _w121])
     (have _hc123 : (putVers [] (Version.mk I (Stamp.mk L R N) (!decide ((↑D.toNat : Int) = (0 : Int))) [] T Y)).length ≤ (120 : Nat) := ((@Go.Ab.Tryz.c11 ([]) (Version.mk I (Stamp.mk L R N) (!decide ((↑D.toNat : Int) = (0 : Int))) [] T Y) (by show (0 : Nat) ≤ (10000 : Nat); omega) (by show (0 : Nat) ≤ (100000 : Nat); omega) (by show T.length ≤ (100000 : Nat); omega) (by show Y.length ≤ (100000 : Nat); omega))).2;
     (have _hn124 : (putVers [] (Version.mk I (Stamp.mk L R N) (!decide (D.toNat = (0 : Nat))) [] T Y)).length ≤ (120 : Nat) := Iff.mp (by simp only [icEq]) _hc123;
     (Sat.pCallE 11 ([AV.tree [], AV.agg [AV.int IntKind.i64 I, AV.int IntKind.i64 L, AV.int IntKind.i64 R, AV.int IntKind.i64 N, AV.bool !decide ((↑D.toNat : Int) = (0 : Int)), AV.tree [], AV.str T, AV.str Y]]) ([]) (by kernel_rfl) rfl rfl ((@Go.Ab.Tryz.c11 ([]) (Version.mk I (Stamp.mk L R N) (!decide ((↑D.toNat : Int) = (0 : Int))) [] T Y) (by show (0 : Nat) ≤ (10000 : Nat); omega) (by show (0 : Nat) ≤ (100000 : Nat); omega) (by show T.length ≤ (100000 : Nat); omega) (by show Y.length ≤ (100000 : Nat); omega))).1
     (have _w125 : List.take (putVers [] (Version.mk I (Stamp.mk L R N) (!decide ((↑D.toNat : Int) = (0 : Int))) [] T Y)).length (List.map encB (putVers [] (Version.mk I (Stamp.mk L R N) (!decide ((↑D.toNat : Int) = (0 : Int))) [] T Y))) = List.map encB (putVers [] (Version.mk I (Stamp.mk L R N) (!decide ((↑D.toNat : Int) = (0 : Int))) [] T Y)) := List.take_of_length_le (by simp);
     (Sat.pBytes (List.take (putVers [] (Version.mk I (Stamp.mk L R N) (!decide ((↑D.toNat : Int) = (0 : Int))) [] T Y)).length (List.map encB (putVers [] (Version.mk I (Stamp.mk L R N) (!decide ((↑D.toNat : Int) = (0 : Int))) [] T Y)))) (putVers [] (Version.mk I (Stamp.mk L R N) (!decide ((↑D.toNat : Int) = (0 : Int))) [] T Y)) (by kernel_rfl) (by simp [encB_fun, List.take_of_length_le])
     (Sat.pIfEN (putVers [] (Version.mk I (Stamp.mk L R N) (!decide ((↑D.toNat : Int) = (0 : Int))) [] T Y) = List.take ((↑b.length : Int) - (↑rest.length : Int)).toNat b) (putVers [] (Version.mk I (Stamp.mk L R N) (!decide (D.toNat = (0 : Nat))) [] T Y) = List.take ((↑b.length : Int) - (↑rest.length : Int)).toNat b) (by kernel_rfl) (by simp only [icEq])
     (fun _h126 =>
     (Sat.pRet (Res.mk (AV.tuple [AV.agg [AV.int IntKind.i64 (0 : Int), AV.int IntKind.i64 (0 : Int), AV.int IntKind.i64 (0 : Int), AV.int IntKind.i64 (0 : Int), AV.bool Bool.false, AV.tree [], AV.str [], AV.str []], AV.int IntKind.i64 (0 : Int), AV.bool Bool.false]) [] []) (by kernel_rfl) (by (clear c1 c2 c3 c4 c5 cy c6 ct; simp_all))))
     (fun _h126 =>
     (Sat.pRet (Res.mk (AV.tuple [AV.agg [AV.int IntKind.i64 I, AV.int IntKind.i64 L, AV.int IntKind.i64 R, AV.int IntKind.i64 N, AV.bool !decide ((↑D.toNat : Int) = (0 : Int)), AV.tree [], AV.str T, AV.str Y], AV.int IntKind.i64 (IntKind.i64.wrap ((↑(List.map encB b).length : Int) - (↑(List.map encB rest).length : Int))), AV.bool Bool.true]) [] []) (by kernel_rfl) ?_)))))))))))
     (fun _h122 => False.elim (by omega)))))))))))))))))))
    simp only [List.length_map]
    rw [wI64 (by omega) (by omega), hfin, hD]
    simp [encVersion]
  · obtain ⟨a, ha⟩ : ∃ a, A[0]? = some a := by
      cases A with
      | nil => exact absurd rfl hA
      | cons a A => exact ⟨a, rfl⟩
    have hpos : 0 < A.length := (List.getElem?_eq_some_iff.1 ha).1
    have c7 := ck 0 a ha
    have c8 := cv 0 a ha
    have e6 : b6 = attrsB (A.drop 0) ++ b7 := hb6
    rw [← e6] at c7
    clear hlen htk hrl hlp h hA hsm
    refine spec_of ok Go.Proofs.Tryz.func9 ok9 ?_
    refine (Sat.pCallE 19 ([AV.ref (Site.inc (0 : Nat)) (0 : Nat) (0 : Nat)]) ([Blk.box (AV.agg [AV.tree (List.map encB b), AV.bool Bool.false]) Bool.true]) (by kernel_rfl) rfl rfl (@c1)
     (Sat.pCallE 19 ([AV.ref (Site.inc (0 : Nat)) (0 : Nat) (0 : Nat)]) ([Blk.box (AV.agg [AV.tree (List.map encB b1), AV.bool Bool.false]) Bool.true]) (by kernel_rfl) rfl rfl (@c2)
     (Sat.pCallE 19 ([AV.ref (Site.inc (0 : Nat)) (0 : Nat) (0 : Nat)]) ([Blk.box (AV.agg [AV.tree (List.map encB b2), AV.bool Bool.false]) Bool.true]) (by kernel_rfl) rfl rfl (@c3)
     (Sat.pCallE 19 ([AV.ref (Site.inc (0 : Nat)) (0 : Nat) (0 : Nat)]) ([Blk.box (AV.agg [AV.tree (List.map encB b3), AV.bool Bool.false]) Bool.true]) (by kernel_rfl) rfl rfl (@c4)
     (Sat.pCallE 19 ([AV.ref (Site.inc (0 : Nat)) (0 : Nat) (0 : Nat)]) ([Blk.box (AV.agg [AV.tree (List.map encB b4), AV.bool Bool.false]) Bool.true]) (by kernel_rfl) rfl rfl (@c5)
     (Sat.pCallE 19 ([AV.ref (Site.inc (0 : Nat)) (0 : Nat) (0 : Nat)]) ([Blk.box (AV.agg [AV.tree (List.map encB b5), AV.bool Bool.false]) Bool.true]) (by kernel_rfl) rfl rfl (@c6) ?_))))))
    refine Sat.pUnroll 8 (St.mk [((0 : Nat), AV.tree (List.map encB b)), ((2 : Nat), AV.ref (Site.head (2 : Nat) (0 : Nat)) (0 : Nat) (0 : Nat)), ((5 : Nat), AV.ref (Site.head (5 : Nat) (0 : Nat)) (0 : Nat) (0 : Nat)), ((6 : Nat), AV.ref (Site.head (6 : Nat) (0 : Nat)) (0 : Nat) (0 : Nat)), ((7 : Nat), AV.int IntKind.i64 (↑A.length : Int))] [(Site.head (2 : Nat) (0 : Nat), Blk.box (AV.agg [AV.int IntKind.i64 (0 : Int), AV.int IntKind.i64 (0 : Int), AV.int IntKind.i64 (0 : Int), AV.int IntKind.i64 (0 : Int), AV.bool Bool.false, AV.nils, AV.str [], AV.str []]) Bool.true), (Site.head (5 : Nat) (0 : Nat), Blk.box (AV.agg [AV.tree (List.map encB b6), AV.bool Bool.false]) Bool.true), (Site.head (6 : Nat) (0 : Nat), Blk.box (AV.agg [AV.int IntKind.i64 I, AV.int IntKind.i64 L, AV.int IntKind.i64 R, AV.int IntKind.i64 N, AV.bool !decide ((↑D.toNat : Int) = (0 : Int)), AV.nils, AV.str [], AV.str []]) Bool.true)]) (by kernel_rfl) ?_
    refine (Sat.pIfET ((0 : Int) < (↑A.length : Int)) ((0 : Nat) < A.length) (by kernel_rfl) (by simp only [ciLt]) hpos
     (Sat.pIfET ((0 : Int) < (↑A.length : Int)) ((0 : Nat) < A.length) (by kernel_rfl) (by simp only [ciLt]) hpos
     (Sat.pIfET ((0 : Int) < (↑A.length : Int)) ((0 : Nat) < A.length) (by kernel_rfl) (by simp only [ciLt]) hpos
     (Sat.pIfET ((0 : Int) < (↑A.length : Int)) ((0 : Nat) < A.length) (by kernel_rfl) (by simp only [ciLt]) hpos
     (Sat.pIfET ((0 : Int) < (↑A.length : Int)) ((0 : Nat) < A.length) (by kernel_rfl) (by simp only [ciLt]) hpos
     (Sat.pIfET ((0 : Int) < (↑A.length : Int)) ((0 : Nat) < A.length) (by kernel_rfl) (by simp only [ciLt]) hpos (Sat.pNodeT true (by kernel_rfl) rfl
     (Sat.pCallE 19 ([AV.ref (Site.inc (0 : Nat)) (0 : Nat) (0 : Nat)]) ([Blk.box (AV.agg [AV.tree (List.map encB b6), AV.bool Bool.false]) Bool.true]) (by kernel_rfl) rfl rfl (@c7)
     (Sat.pCallE 19 ([AV.ref (Site.inc (0 : Nat)) (0 : Nat) (0 : Nat)]) ([Blk.box (AV.agg [AV.tree (List.map encB (numB a.Val.toNat ++ (attrsB (List.drop (1 : Nat) A) ++ b7))), AV.bool Bool.false]) Bool.true]) (by kernel_rfl) rfl rfl (@c8)
     (Sat.pNodeT true (by kernel_rfl) rfl (have _w111 : IntKind.i64.wrap ((↑A.length : Int) - (1 : Int)) = (↑A.length : Int) - (1 : Int) := wI64 (by omega) (by omega); ?_)))))))))))
    clear c1 c2 c3 c4 c5 c6 c7 c8
    refine Sat.pLoop 8 (St.mk [((0 : Nat), AV.tree (List.map encB b)), ((2 : Nat), AV.ref (Site.head (2 : Nat) (0 : Nat)) (0 : Nat) (0 : Nat)), ((5 : Nat), AV.ref (Site.head (5 : Nat) (0 : Nat)) (0 : Nat) (0 : Nat)), ((6 : Nat), AV.ref (Site.head (6 : Nat) (0 : Nat)) (0 : Nat) (0 : Nat)), ((7 : Nat), AV.int IntKind.i64 (IntKind.i64.wrap ((↑A.length : Int) - (1 : Int))))] [(Site.head (2 : Nat) (0 : Nat), Blk.box (AV.agg [AV.int IntKind.i64 (0 : Int), AV.int IntKind.i64 (0 : Int), AV.int IntKind.i64 (0 : Int), AV.int IntKind.i64 (0 : Int), AV.bool Bool.false, AV.nils, AV.str [], AV.str []]) Bool.true), (Site.head (5 : Nat) (0 : Nat), Blk.box (AV.agg [AV.tree (List.map encB (attrsB (List.drop (1 : Nat) A) ++ b7)), AV.bool Bool.false]) Bool.true), (Site.head (6 : Nat) (0 : Nat), Blk.box (AV.agg [AV.int IntKind.i64 I, AV.int IntKind.i64 L, AV.int IntKind.i64 R, AV.int IntKind.i64 N, AV.bool !decide ((↑D.toNat : Int) = (0 : Int)), AV.sref (Site.head (6 : Nat) (1 : Nat)) (0 : Nat) (1 : Nat), AV.str [], AV.str []]) Bool.true), (Site.head (6 : Nat) (1 : Nat), Blk.row (2 : Nat) [AV.agg [AV.int IntKind.i64 a.Key, AV.int IntKind.i64 a.Val]] Bool.true Bool.true)]) (by kernel_rfl) (fun (p : Int × List Attr × List UInt8) => ⟨[(0, .tree (b.map encB)), (2, .ref (.head 2 0) 0 0), (5, .ref (.head 5 0) 0 0), (6, .ref (.head 6 0) 0 0), (7, .int .i64 p.1)], [(.head 2 0, .box (.agg [.int .i64 0, .int .i64 0, .int .i64 0, .int .i64 0, .bool false, .nils, .str [], .str []]) true), (.head 5 0, .box (.agg [.tree (p.2.2.map encB), .bool false]) true), (.head 6 0, .box (.agg [.int .i64 I, .int .i64 L, .int .i64 R, .int .i64 N, .bool (!decide ((D.toNat : Int) = 0)), .sref (.head 6 1) 0 p.2.1.length, .str [], .str []]) true), (.head 6 1, .row 2 (p.2.1.map encAttr) true true)]⟩) (fun p => ∃ k : Nat, k ≤ A.length ∧ p.1 = (A.length : Int) - k ∧ p.2.1 = A.take k ∧ p.2.2 = attrsB (A.drop k) ++ b7) (fun p => p.1.toNat) ((A.length : Int) - 1, [a], attrsB (A.drop 1) ++ b7) (by (simp [encAttr, *]; done)) ?_ ?_
    · exact ⟨1, by omega, rfl, by simp only; rw [take_succ ha]; simp, rfl⟩
    · rintro ⟨n, l, B⟩ ⟨k, hk, e1, e2, e3⟩ again
      simp only at e1 e2 e3
      subst e1 e2 e3
      rcases Nat.lt_or_ge k A.length with hlt | hge
      · obtain ⟨x, hx⟩ : ∃ x, A[k]? = some x := ⟨A[k], by simp⟩
        have ck' := ck k x hx
        have cv' := cv k x hx
        clear ck cv ct cy
        have htk : (A.take k).length = k := by rw [List.length_take]; omega
        refine (Sat.pIf ((0 : Int) < (↑A.length : Int) - (↑k : Int)) (by kernel_rfl) (fun _h124 =>
         (Sat.pIfET ((0 : Int) < (↑A.length : Int) - (↑k : Int)) ((0 : Int) < (↑A.length : Int) - (↑k : Int)) (by kernel_rfl) Iff.rfl _h124
         (Sat.pIfET ((0 : Int) < (↑A.length : Int) - (↑k : Int)) ((0 : Int) < (↑A.length : Int) - (↑k : Int)) (by kernel_rfl) Iff.rfl _h124
         (Sat.pIfET ((0 : Int) < (↑A.length : Int) - (↑k : Int)) ((0 : Int) < (↑A.length : Int) - (↑k : Int)) (by kernel_rfl) Iff.rfl _h124
         (Sat.pIfET ((0 : Int) < (↑A.length : Int) - (↑k : Int)) ((0 : Int) < (↑A.length : Int) - (↑k : Int)) (by kernel_rfl) Iff.rfl _h124
         (Sat.pIfET ((0 : Int) < (↑A.length : Int) - (↑k : Int)) ((0 : Int) < (↑A.length : Int) - (↑k : Int)) (by kernel_rfl) Iff.rfl _h124 (Sat.pNodeT true (by kernel_rfl) rfl
         (Sat.pCallE 19 ([AV.ref (Site.inc (0 : Nat)) (0 : Nat) (0 : Nat)]) ([Blk.box (AV.agg [AV.tree (List.map encB (attrsB (List.drop k A) ++ b7)), AV.bool Bool.false]) Bool.true]) (by kernel_rfl) rfl rfl (@ck')
         (Sat.pCallE 19 ([AV.ref (Site.inc (0 : Nat)) (0 : Nat) (0 : Nat)]) ([Blk.box (AV.agg [AV.tree (List.map encB (numB x.Val.toNat ++ (attrsB (List.drop (k + (1 : Nat)) A) ++ b7))), AV.bool Bool.false]) Bool.true]) (by kernel_rfl) rfl rfl (@cv')
         (Sat.pIfE (((List.take k A).length + (1 : Nat)) * (16 : Nat) ≤ (140737488355328 : Nat)) ((Min.min k A.length + (1 : Nat)) * (16 : Nat) ≤ (140737488355328 : Nat)) (by kernel_rfl) (by simp only [List.length_take])
         (fun _h125 => (Sat.pIfE ((List.take k A).length = (List.map encAttr (List.take k A)).length) (True) (by kernel_rfl) (by simp only [List.length_map]) (fun _h126 =>
         (have _w127 : IntKind.i64.wrap ((↑A.length : Int) - (↑k : Int) - (1 : Int)) = (↑A.length : Int) - (↑k : Int) - (1 : Int) := wI64 (by omega) (by omega);
         (Sat.pAgainE (St.mk [((0 : Nat), AV.tree (List.map encB b)), ((2 : Nat), AV.ref (Site.head (2 : Nat) (0 : Nat)) (0 : Nat) (0 : Nat)), ((5 : Nat), AV.ref (Site.head (5 : Nat) (0 : Nat)) (0 : Nat) (0 : Nat)), ((6 : Nat), AV.ref (Site.head (6 : Nat) (0 : Nat)) (0 : Nat) (0 : Nat)), ((7 : Nat), AV.int IntKind.i64 (IntKind.i64.wrap ((↑A.length : Int) - (↑k : Int) - (1 : Int))))] [(Site.head (2 : Nat) (0 : Nat), Blk.box (AV.agg [AV.int IntKind.i64 (0 : Int), AV.int IntKind.i64 (0 : Int), AV.int IntKind.i64 (0 : Int), AV.int IntKind.i64 (0 : Int), AV.bool Bool.false, AV.nils, AV.str [], AV.str []]) Bool.true), (Site.head (5 : Nat) (0 : Nat), Blk.box (AV.agg [AV.tree (List.map encB (attrsB (List.drop (k + (1 : Nat)) A) ++ b7)), AV.bool Bool.false]) Bool.true), (Site.head (6 : Nat) (0 : Nat), Blk.box (AV.agg [AV.int IntKind.i64 I, AV.int IntKind.i64 L, AV.int IntKind.i64 R, AV.int IntKind.i64 N, AV.bool !decide ((↑D.toNat : Int) = (0 : Int)), AV.sref (Site.head (6 : Nat) (1 : Nat)) (0 : Nat) ((List.take k A).length + (1 : Nat)), AV.str [], AV.str []]) Bool.true), (Site.head (6 : Nat) (1 : Nat), Blk.row (2 : Nat) (List.map encAttr (List.take k A) ++ [AV.agg [AV.int IntKind.i64 x.Key, AV.int IntKind.i64 x.Val]]) Bool.true Bool.true)]) (by kernel_rfl) (by simp [encAttr, _w127]) (again (((↑A.length : Int) - (↑k : Int) - (1 : Int), List.take k A ++ [x], attrsB (List.drop (k + (1 : Nat)) A) ++ b7)) ?_ (by (clear again ck' cv'; (dsimp only; omega)))))))
         (fun _h126 => (_h126 trivial).elim))) (fun _h125 => False.elim (by omega)))))))))))) (fun _h124 => False.elim (by omega)))
        refine ⟨k + 1, by omega, ?_, ?_, rfl⟩
        · show (A.length : Int) - k - 1 = A.length - ((k + 1 : Nat) : Int); omega
        · exact (take_succ hx).symm
      · have hkk : k = A.length := by omega
        subst hkk
        clear ck cv
        have edr : attrsB (A.drop A.length) ++ b7 = b7 := by simp [attrsB]
        have etk : A.take A.length = A := List.take_length
        rw [edr, etk]
        refine (Sat.pIf ((0 : Int) < (↑A.length : Int) - (↑A.length : Int)) (by kernel_rfl) (fun _h117 => False.elim (by omega)) (fun _h117 =>
         (Sat.pIfEF ((0 : Int) < (↑A.length : Int) - (↑A.length : Int)) ((0 : Int) < (↑A.length : Int) - (↑A.length : Int)) (by kernel_rfl) Iff.rfl _h117
         (Sat.pIfEF ((0 : Int) < (↑A.length : Int) - (↑A.length : Int)) ((0 : Int) < (↑A.length : Int) - (↑A.length : Int)) (by kernel_rfl) Iff.rfl _h117
         (Sat.pIfEF ((0 : Int) < (↑A.length : Int) - (↑A.length : Int)) ((0 : Int) < (↑A.length : Int) - (↑A.length : Int)) (by kernel_rfl) Iff.rfl _h117
         (Sat.pIfEF ((0 : Int) < (↑A.length : Int) - (↑A.length : Int)) ((0 : Int) < (↑A.length : Int) - (↑A.length : Int)) (by kernel_rfl) Iff.rfl _h117
         (Sat.pIfEF ((0 : Int) < (↑A.length : Int) - (↑A.length : Int)) ((0 : Int) < (↑A.length : Int) - (↑A.length : Int)) (by kernel_rfl) Iff.rfl _h117 (Sat.pNodeF false (by kernel_rfl) rfl
         (Sat.pCallE 20 ([AV.ref (Site.inc (0 : Nat)) (0 : Nat) (0 : Nat)]) ([Blk.box (AV.agg [AV.tree (List.map encB b7), AV.bool Bool.false]) Bool.true]) (by kernel_rfl) rfl rfl (@ct)
         (Sat.pCallE 20 ([AV.ref (Site.inc (0 : Nat)) (0 : Nat) (0 : Nat)]) ([Blk.box (AV.agg [AV.tree (List.map encB b8), AV.bool Bool.false]) Bool.true]) (by kernel_rfl) rfl rfl (@cy)
         (Sat.pNodeF false (by kernel_rfl) rfl (Sat.pNodeF false (by kernel_rfl) rfl (have _w118 : List.take A.length (List.map encAttr A) = List.map encAttr A := List.take_of_length_le (by simp);
         (Sat.pCallE 21 ([AV.agg [AV.int IntKind.i64 I, AV.int IntKind.i64 L, AV.int IntKind.i64 R, AV.int IntKind.i64 N, AV.bool !decide ((↑D.toNat : Int) = (0 : Int)), AV.tree (List.take A.length (List.map encAttr A)), AV.str T, AV.str Y]]) ([]) (by kernel_rfl) (by simp [encVersion, _w118]) rfl (@Go.Ab.Tryz.c21 (Version.mk I (Stamp.mk L R N) (!decide ((↑D.toNat : Int) = (0 : Int))) A T Y) (by show A.length ≤ (100000 : Nat); omega) (by show T.length ≤ (100000 : Nat); omega) (by show Y.length ≤ (100000 : Nat); omega))
         (Sat.pNodeF false (by kernel_rfl) rfl (Sat.pNodeF false (by kernel_rfl) rfl
         (Sat.pNodeF (!(Version.mk I (Stamp.mk L R N) (!decide ((↑D.toNat : Int) = (0 : Int))) A T Y).may) (by kernel_rfl) (by rw [hmay]; rfl)
         (have _w119 : IntKind.i64.wrap ((↑b.length : Int) - (↑rest.length : Int)) = (↑b.length : Int) - (↑rest.length : Int) := wI64 (by omega) (by omega);
         (Sat.pIfE ((0 : Int) ≤ IntKind.i64.wrap ((↑(List.map encB b).length : Int) - (↑(List.map encB rest).length : Int)) ∧ IntKind.i64.wrap ((↑(List.map encB b).length : Int) - (↑(List.map encB rest).length : Int)) ≤ (↑(List.map encB b).length : Int)) ((0 : Int) ≤ (↑b.length : Int) - (↑rest.length : Int) ∧ (↑b.length : Int) - (↑rest.length : Int) ≤ (↑b.length : Int)) (by kernel_rfl) (by simp only [List.length_map, _w119])
         (fun _h120 =>
         (Sat.pEszM (encB) (List.take ((↑b.length : Int) - (↑rest.length : Int)).toNat b) (List.take (IntKind.i64.wrap ((↑(List.map encB b).length : Int) - (↑(List.map encB rest).length : Int))).toNat (List.map encB b)) (1) (by kernel_rfl) (by simp [_w119])
         (fun _ => rfl)
         (Sat.pBytes (List.take (IntKind.i64.wrap ((↑(List.map encB b).length : Int) - (↑(List.map encB rest).length : Int))).toNat (List.map encB b)) (List.take ((↑b.length : Int) - (↑rest.length : Int)).toNat b) (by kernel_rfl) (by simp [encB_fun, _w119])
         (have _hc121 : (putVers [] (Version.mk I (Stamp.mk L R N) (!decide ((↑D.toNat : Int) = (0 : Int))) A T Y)).length ≤ (120 : Nat) := ((@Go.Ab.Tryz.c11 ([]) (Version.mk I (Stamp.mk L R N) (!decide ((↑D.toNat : Int) = (0 : Int))) A T Y) (by show (0 : Nat) ≤ (10000 : Nat); omega) (by show A.length ≤ (100000 : Nat); omega) (by show T.length ≤ (100000 : Nat); omega) (by show Y.length ≤ (100000 : Nat); omega))).2;
         (have _hn122 : (putVers [] (Version.mk I (Stamp.mk L R N) (!decide (D.toNat = (0 : Nat))) A T Y)).length ≤ (120 : Nat) := Iff.mp (by simp only [icEq]) _hc121;
         (Sat.pCallE 11 ([AV.tree [], AV.agg [AV.int IntKind.i64 I, AV.int IntKind.i64 L, AV.int IntKind.i64 R, AV.int IntKind.i64 N, AV.bool !decide ((↑D.toNat : Int) = (0 : Int)), AV.tree (List.take A.length (List.map encAttr A)), AV.str T, AV.str Y]]) ([]) (by kernel_rfl) (by simp [encVersion, _w118]) rfl ((@Go.Ab.Tryz.c11 ([]) (Version.mk I (Stamp.mk L R N) (!decide ((↑D.toNat : Int) = (0 : Int))) A T Y) (by show (0 : Nat) ≤ (10000 : Nat); omega) (by show A.length ≤ (100000 : Nat); omega) (by show T.length ≤ (100000 : Nat); omega) (by show Y.length ≤ (100000 : Nat); omega))).1
         (have _w123 : List.take (putVers [] (Version.mk I (Stamp.mk L R N) (!decide ((↑D.toNat : Int) = (0 : Int))) A T Y)).length (List.map encB (putVers [] (Version.mk I (Stamp.mk L R N) (!decide ((↑D.toNat : Int) = (0 : Int))) A T Y))) = List.map encB (putVers [] (Version.mk I (Stamp.mk L R N) (!decide ((↑D.toNat : Int) = (0 : Int))) A T Y)) := List.take_of_length_le (by simp);
         (Sat.pBytes (List.take (putVers [] (Version.mk I (Stamp.mk L R N) (!decide ((↑D.toNat : Int) = (0 : Int))) A T Y)).length (List.map encB (putVers [] (Version.mk I (Stamp.mk L R N) (!decide ((↑D.toNat : Int) = (0 : Int))) A T Y)))) (putVers [] (Version.mk I (Stamp.mk L R N) (!decide ((↑D.toNat : Int) = (0 : Int))) A T Y)) (by kernel_rfl) (by simp [encB_fun, List.take_of_length_le])
         (Sat.pIfEN (putVers [] (Version.mk I (Stamp.mk L R N) (!decide ((↑D.toNat : Int) = (0 : Int))) A T Y) = List.take ((↑b.length : Int) - (↑rest.length : Int)).toNat b) (putVers [] (Version.mk I (Stamp.mk L R N) (!decide (D.toNat = (0 : Nat))) A T Y) = List.take ((↑b.length : Int) - (↑rest.length : Int)).toNat b) (by kernel_rfl) (by simp only [icEq])
         (fun _h124 =>
         (Sat.pRet (Res.mk (AV.tuple [AV.agg [AV.int IntKind.i64 (0 : Int), AV.int IntKind.i64 (0 : Int), AV.int IntKind.i64 (0 : Int), AV.int IntKind.i64 (0 : Int), AV.bool Bool.false, AV.tree [], AV.str [], AV.str []], AV.int IntKind.i64 (0 : Int), AV.bool Bool.false]) [] []) (by kernel_rfl) (by (clear ct cy again; simp_all))))
         (fun _h124 =>
         (Sat.pRet (Res.mk (AV.tuple [AV.agg [AV.int IntKind.i64 I, AV.int IntKind.i64 L, AV.int IntKind.i64 R, AV.int IntKind.i64 N, AV.bool !decide ((↑D.toNat : Int) = (0 : Int)), AV.tree (List.take A.length (List.map encAttr A)), AV.str T, AV.str Y], AV.int IntKind.i64 (IntKind.i64.wrap ((↑(List.map encB b).length : Int) - (↑(List.map encB rest).length : Int))), AV.bool Bool.true]) [] []) (by kernel_rfl) ?_)))))))))))
         (fun _h120 => False.elim (by omega)))))))))))))))))))))
        simp only [List.length_map]
        rw [wI64 (by omega) (by omega), hfin, hD]
        simp [encVersion, List.take_of_length_le]
end Go.Ab.Tryz
