/- Package vput: a version out of bytes. -/
import Derived.Test.YtodelhgblkhjgaaGreatDoorVputh
namespace Go.Ab.Tryz
open Go
set_option maxRecDepth 100000
set_option maxHeartbeats 4000000
theorem dead_num (d : Bool) : ((d.toNat : Nat) : Int).toNat = d.toNat := by simp
theorem version_yes (v : Version) (h : v.may = true) (rest : List UInt8) (hr : rest.length ≤ 10000) : X.call 17 [.ref (.inc 0) 0 0] [.box (.agg [.tree ((putVers [] v ++ rest).map encB), .int .i64 0, .nili]) true] ⟨encVersion v, [.box (.agg [.tree ((putVers [] v ++ rest).map encB), .int .i64 ((putVers [] v).length : Nat), .nili]) true], []⟩ := by
  have f := Version.may_fit h
  have hlen := putVers_len [] v
  obtain ⟨b, hb⟩ : ∃ b, b = putVers [] v ++ rest := ⟨_, rfl⟩
  have hbl : b.length ≤ 100000 := by rw [hb]; simp only [List.length_append, List.length_nil] at hlen ⊢; omega
  rw [← hb]
  have e := hb
  simp only [putVers, h, if_true, versB, List.nil_append, List.append_assoc] at e
  obtain ⟨I, ⟨L, R, N⟩, D, A, T, Y⟩ := v
  have hi0 := f.i0; have hi1 := f.i1; have hl0 := f.l0; have hl1 := f.l1; have hr0 := f.r0; have hr1 := f.r1; have hn0 := f.n0; have hn1 := f.n1; have hal := f.al; have htl := f.tl; have hyl := f.bl; have hav := f.av
  simp only at hi0 hi1 hl0 hl1 hr0 hr1 hn0 hn1 hal htl hyl hav e
  cases D with
  | true =>
    simp only [Bool.toNat_true] at e
    have l5 : (numB 1).length = 1 := by rw [numB_small (by omega)]; rfl
    have c1 := num_yes b [116, 104, 105, 110, 103] hbl (0) I (by omega) (by omega) (pre := []) ⟨_, e⟩ rfl
    have c2 := num_yes b [116, 105, 109, 101] hbl (0 + (numB I.toNat).length) L (by omega) (by omega) (pre := numB I.toNat) ⟨_, e⟩ (by omega)
    have c3 := num_yes b [114, 101, 112, 108, 105, 99, 97] hbl (0 + (numB I.toNat).length + (numB L.toNat).length) R (by omega) (by omega) (pre := numB I.toNat ++ numB L.toNat) ⟨_, by rw [e]; simp only [List.append_assoc, List.nil_append, Int.toNat_natCast]; rfl⟩ (by simp only [List.length_append]; omega)
    have c4 := num_yes b [110, 117, 109, 98, 101, 114] hbl (0 + (numB I.toNat).length + (numB L.toNat).length + (numB R.toNat).length) N (by omega) (by omega) (pre := numB I.toNat ++ numB L.toNat ++ numB R.toNat) ⟨_, by rw [e]; simp only [List.append_assoc, List.nil_append, Int.toNat_natCast]; rfl⟩ (by simp only [List.length_append]; omega)
    have c5 := num_yes b [101, 110, 100] hbl (0 + (numB I.toNat).length + (numB L.toNat).length + (numB R.toNat).length + (numB N.toNat).length) 1 (by omega) (by omega) (pre := numB I.toNat ++ numB L.toNat ++ numB R.toNat ++ numB N.toNat) ⟨_, by rw [e]; simp only [List.append_assoc]; rfl⟩ (by simp only [List.length_append]; omega)
    rw [show (numB (1 : Int).toNat).length = 1 by rw [show (1 : Int).toNat = 1 from rfl]; exact l5] at c5
    have c6 := num_yes b [97, 116, 116, 114, 105, 98, 117, 116, 101, 115] hbl (0 + (numB I.toNat).length + (numB L.toNat).length + (numB R.toNat).length + (numB N.toNat).length + 1) A.length (by omega) (by omega) (pre := numB I.toNat ++ numB L.toNat ++ numB R.toNat ++ numB N.toNat ++ numB 1) ⟨_, by rw [e]; simp only [List.append_assoc, List.nil_append, Int.toNat_natCast]; rfl⟩ (by simp only [List.length_append]; omega)
    obtain ⟨Q, hQ⟩ : ∃ Q, Q = 0 + (numB I.toNat).length + (numB L.toNat).length + (numB R.toNat).length + (numB N.toNat).length + 1 + (numB ((A.length : Nat) : Int).toNat).length := ⟨_, rfl⟩
    rw [← hQ] at c6
    obtain ⟨pre, hpre⟩ : ∃ pre, pre = numB I.toNat ++ numB L.toNat ++ numB R.toNat ++ numB N.toNat ++ numB 1 ++ numB A.length := ⟨_, rfl⟩
    have hQ2 : Q = pre.length := by rw [hQ, hpre]; simp only [List.length_append, Int.toNat_natCast] <;> omega
    have e2 : b = pre ++ (attrsB A ++ (textB T ++ (textB Y ++ rest))) := by rw [e, hpre]; simp only [List.append_assoc]
    have hQl : Q ≤ 100 := by
      have l1 := numB_len I.toNat (by omega); have l2 := numB_len L.toNat (by omega); have l3 := numB_len R.toNat (by omega); have l4 := numB_len N.toNat (by omega); have l6 := numB_len A.length (by omega)
      rw [hQ2, hpre]; simp only [List.length_append]; omega
    have hcut : ∀ (k : Nat) (a : Attr), A[k]? = some a → attrsB A = attrsB (A.take k) ++ (numB a.Key.toNat ++ (numB a.Val.toNat ++ attrsB (A.drop (k + 1)))) := fun k a ha => by
      conv => lhs; rw [← List.take_append_drop (k + 1) A]
      unfold attrsB
      rw [List.flatMap_append, take_succ ha, List.flatMap_append]
      simp
    have ck : ∀ (k : Nat) (a : Attr), A[k]? = some a → _ := fun k a ha => num_yes b [107, 101, 121] hbl (Q + (attrsB (A.take k)).length) a.Key (hav a (List.mem_of_getElem? ha)).1 (by have := hav a (List.mem_of_getElem? ha); omega) (pre := pre ++ attrsB (A.take k)) ⟨_, by rw [e2, hcut k a ha]; simp only [List.append_assoc]; rfl⟩ (by simp only [List.length_append]; omega)
    have cv : ∀ (k : Nat) (a : Attr), A[k]? = some a → _ := fun k a ha => num_yes b [118, 97, 108, 117, 101] hbl (Q + (attrsB (A.take k)).length + (numB a.Key.toNat).length) a.Val (hav a (List.mem_of_getElem? ha)).2.2.1 (by have := hav a (List.mem_of_getElem? ha); omega) (pre := pre ++ attrsB (A.take k) ++ numB a.Key.toNat) ⟨_, by rw [e2, hcut k a ha]; simp only [List.append_assoc]; rfl⟩ (by simp only [List.length_append]; omega)
    have ct := text_yes b [116, 97, 103] hbl (Q + (attrsB (A.take A.length)).length) T (by omega) (pre := pre ++ attrsB A) ⟨_, by rw [e2]; simp only [List.append_assoc]; rfl⟩ (by simp only [List.length_append, List.take_length]; omega)
    have cy := text_yes b [98, 111, 100, 121] hbl (Q + (attrsB (A.take A.length)).length + (textB T).length) Y (by omega) (pre := pre ++ attrsB A ++ textB T) ⟨_, by rw [e2]; simp only [List.append_assoc]; rfl⟩ (by simp only [List.length_append, List.take_length]; omega)
    have hfin : Q + (attrsB (A.take A.length)).length + (textB T).length + (textB Y).length = (putVers [] ⟨I, ⟨L, R, N⟩, true, A, T, Y⟩).length := by
      have h1 := congrArg List.length hb
      have h2 := congrArg List.length e2
      simp only [List.length_append] at h1 h2
      rw [List.take_length, hQ2]; omega
    have hmay : (Version.mk I ⟨L, R, N⟩ true (A.take A.length) T Y).may = true := by rw [List.take_length]; exact h
    clear hcut hb e e2 hpre hQ2 f
    refine spec_of ok Go.Proofs.Tryz.func17 ok17 ?_
    refine
     (Sat.pCallE 28 ([AV.ref (Site.inc (0 : Nat)) (0 : Nat) (0 : Nat), AV.str [(116 : UInt8), (104 : UInt8), (105 : UInt8), (110 : UInt8), (103 : UInt8)]]) ([Blk.box (AV.agg [AV.tree (List.map encB b), AV.int IntKind.i64 (0 : Int), AV.nili]) Bool.true]) (by kernel_rfl) rfl rfl (@c1)
     (Sat.pCallE 28 ([AV.ref (Site.inc (0 : Nat)) (0 : Nat) (0 : Nat), AV.str [(116 : UInt8), (105 : UInt8), (109 : UInt8), (101 : UInt8)]]) ([Blk.box (AV.agg [AV.tree (List.map encB b), AV.int IntKind.i64 (↑((0 : Nat) + (numB I.toNat).length) : Int), AV.nili]) Bool.true]) (by kernel_rfl) rfl rfl (@c2)
     (Sat.pCallE 28 ([AV.ref (Site.inc (0 : Nat)) (0 : Nat) (0 : Nat), AV.str [(114 : UInt8), (101 : UInt8), (112 : UInt8), (108 : UInt8), (105 : UInt8), (99 : UInt8), (97 : UInt8)]]) ([Blk.box (AV.agg [AV.tree (List.map encB b), AV.int IntKind.i64 (↑((0 : Nat) + (numB I.toNat).length + (numB L.toNat).length) : Int), AV.nili]) Bool.true]) (by kernel_rfl) rfl rfl (@c3)
     (Sat.pCallE 28 ([AV.ref (Site.inc (0 : Nat)) (0 : Nat) (0 : Nat), AV.str [(110 : UInt8), (117 : UInt8), (109 : UInt8), (98 : UInt8), (101 : UInt8), (114 : UInt8)]]) ([Blk.box (AV.agg [AV.tree (List.map encB b), AV.int IntKind.i64 (↑((0 : Nat) + (numB I.toNat).length + (numB L.toNat).length + (numB R.toNat).length) : Int), AV.nili]) Bool.true]) (by kernel_rfl) rfl rfl (@c4)
     (Sat.pCallE 28 ([AV.ref (Site.inc (0 : Nat)) (0 : Nat) (0 : Nat), AV.str [(101 : UInt8), (110 : UInt8), (100 : UInt8)]]) ([Blk.box (AV.agg [AV.tree (List.map encB b), AV.int IntKind.i64 (↑((0 : Nat) + (numB I.toNat).length + (numB L.toNat).length + (numB R.toNat).length + (numB N.toNat).length) : Int), AV.nili]) Bool.true]) (by kernel_rfl) rfl rfl (@c5)
     (Sat.pCallE 28 ([AV.ref (Site.inc (0 : Nat)) (0 : Nat) (0 : Nat), AV.str [(97 : UInt8), (116 : UInt8), (116 : UInt8), (114 : UInt8), (105 : UInt8), (98 : UInt8), (117 : UInt8), (116 : UInt8), (101 : UInt8), (115 : UInt8)]]) ([Blk.box (AV.agg [AV.tree (List.map encB b), AV.int IntKind.i64 (↑((0 : Nat) + (numB I.toNat).length + (numB L.toNat).length + (numB R.toNat).length + (numB N.toNat).length + (1 : Nat)) : Int), AV.nili]) Bool.true]) (by kernel_rfl) rfl rfl (@c6) ?_))))))
    clear c1 c2 c3 c4 c5 c6
    refine Sat.pLoop 6 (St.mk [((0 : Nat), AV.ref (Site.inc (0 : Nat)) (0 : Nat) (0 : Nat)), ((2 : Nat), AV.ref (Site.head (2 : Nat) (0 : Nat)) (0 : Nat) (0 : Nat)), ((3 : Nat), AV.int IntKind.i64 (1 : Int)), ((4 : Nat), AV.int IntKind.i64 (if (9 : Int) < (↑A.length : Int) then (9 : Int) else (↑A.length : Int)))] [(Site.inc (0 : Nat), Blk.box (AV.agg [AV.tree (List.map encB b), AV.int IntKind.i64 (↑Q : Int), AV.nili]) Bool.true), (Site.head (2 : Nat) (0 : Nat), Blk.box (AV.agg [AV.int IntKind.i64 I, AV.int IntKind.i64 L, AV.int IntKind.i64 R, AV.int IntKind.i64 N, AV.bool (decide ((1 : Int) = (1 : Int))), AV.sref (Site.head (2 : Nat) (1 : Nat)) (0 : Nat) (0 : Nat), AV.str [], AV.str []]) Bool.true), (Site.head (2 : Nat) (1 : Nat), Blk.row (2 : Nat) [] Bool.true Bool.true)]) (by kernel_rfl) (fun (p : Int × Nat × List Attr) => ⟨[(0, .ref (.inc 0) 0 0), (2, .ref (.head 2 0) 0 0), (3, .int .i64 1), (4, .int .i64 p.1)], [(.inc 0, .box (.agg [.tree (b.map encB), .int .i64 p.2.1, .nili]) true), (.head 2 0, .box (.agg [.int .i64 I, .int .i64 L, .int .i64 R, .int .i64 N, .bool true, .sref (.head 2 1) 0 p.2.2.length, .str [], .str []]) true), (.head 2 1, .row 2 (p.2.2.map encAttr) true true)]⟩) (fun p => ∃ k : Nat, k ≤ A.length ∧ p.1 = (A.length : Int) - k ∧ p.2.1 = Q + (attrsB (A.take k)).length ∧ p.2.2 = A.take k) (fun p => p.1.toNat) (A.length, Q, []) (by (rw [if_neg (by omega)]; simp; done)) ?_ ?_
    · exact ⟨0, by omega, by simp, by simp [attrsB], by simp⟩
    · rintro ⟨n, at1, l⟩ ⟨k, hk, e1, e2, e3⟩ again
      simp only at e1 e2 e3
      subst e1 e2 e3
      rcases Nat.lt_or_ge k A.length with hlt | hge
      · obtain ⟨a, ha⟩ : ∃ a, A[k]? = some a := ⟨A[k], by simp⟩
        have ck' := ck k a ha
        have cv' := cv k a ha
        clear ck cv ct cy
        have htk : (A.take k).length = k := by rw [List.length_take]; omega
        refine (Sat.pIf ((0 : Int) < (↑A.length : Int) - (↑k : Int)) (by kernel_rfl) (fun _h76 =>
         (Sat.pCallE 28 ([AV.ref (Site.inc (0 : Nat)) (0 : Nat) (0 : Nat), AV.str [(107 : UInt8), (101 : UInt8), (121 : UInt8)]]) ([Blk.box (AV.agg [AV.tree (List.map encB b), AV.int IntKind.i64 (↑(Q + (attrsB (List.take k A)).length) : Int), AV.nili]) Bool.true]) (by kernel_rfl) rfl rfl (@ck')
         (Sat.pCallE 28 ([AV.ref (Site.inc (0 : Nat)) (0 : Nat) (0 : Nat), AV.str [(118 : UInt8), (97 : UInt8), (108 : UInt8), (117 : UInt8), (101 : UInt8)]]) ([Blk.box (AV.agg [AV.tree (List.map encB b), AV.int IntKind.i64 (↑(Q + (attrsB (List.take k A)).length + (numB a.Key.toNat).length) : Int), AV.nili]) Bool.true]) (by kernel_rfl) rfl rfl (@cv')
         (Sat.pIfE (((List.take k A).length + (1 : Nat)) * (16 : Nat) ≤ (140737488355328 : Nat)) ((Min.min k A.length + (1 : Nat)) * (16 : Nat) ≤ (140737488355328 : Nat)) (by kernel_rfl) (by simp only [List.length_take])
         (fun _h77 => (Sat.pIfE ((List.take k A).length = (List.map encAttr (List.take k A)).length) (True) (by kernel_rfl) (by simp only [List.length_map]) (fun _h78 =>
         (have _w79 : IntKind.i64.wrap ((↑A.length : Int) - (↑k : Int) - (1 : Int)) = (↑A.length : Int) - (↑k : Int) - (1 : Int) := wI64 (by omega) (by omega);
         (Sat.pAgainE (St.mk [((0 : Nat), AV.ref (Site.inc (0 : Nat)) (0 : Nat) (0 : Nat)), ((2 : Nat), AV.ref (Site.head (2 : Nat) (0 : Nat)) (0 : Nat) (0 : Nat)), ((3 : Nat), AV.int IntKind.i64 (1 : Int)), ((4 : Nat), AV.int IntKind.i64 (IntKind.i64.wrap ((↑A.length : Int) - (↑k : Int) - (1 : Int))))] [(Site.inc (0 : Nat), Blk.box (AV.agg [AV.tree (List.map encB b), AV.int IntKind.i64 (↑(Q + (attrsB (List.take k A)).length + (numB a.Key.toNat).length + (numB a.Val.toNat).length) : Int), AV.nili]) Bool.true), (Site.head (2 : Nat) (0 : Nat), Blk.box (AV.agg [AV.int IntKind.i64 I, AV.int IntKind.i64 L, AV.int IntKind.i64 R, AV.int IntKind.i64 N, AV.bool Bool.true, AV.sref (Site.head (2 : Nat) (1 : Nat)) (0 : Nat) ((List.take k A).length + (1 : Nat)), AV.str [], AV.str []]) Bool.true), (Site.head (2 : Nat) (1 : Nat), Blk.row (2 : Nat) (List.map encAttr (List.take k A) ++ [AV.agg [AV.int IntKind.i64 a.Key, AV.int IntKind.i64 a.Val]]) Bool.true Bool.true)]) (by kernel_rfl) (by simp [encAttr, _w79]) (again (((↑A.length : Int) - (↑k : Int) - (1 : Int), Q + (attrsB (List.take k A)).length + (numB a.Key.toNat).length + (numB a.Val.toNat).length, List.take k A ++ [a])) ?_ (by (clear again ck' cv'; (dsimp only; omega)))))))
         (fun _h78 => (_h78 trivial).elim))) (fun _h77 => False.elim (by omega)))))) (fun _h76 => False.elim (by omega)))
        refine ⟨k + 1, by omega, ?_, ?_, ?_⟩
        · show (A.length : Int) - k - 1 = A.length - ((k + 1 : Nat) : Int); omega
        · show Q + (attrsB (A.take k)).length + (numB a.Key.toNat).length + (numB a.Val.toNat).length = _
          rw [attrsB_succ ha]; simp only [List.length_append]; omega
        · exact (take_succ ha).symm
      · have hkk : k = A.length := by omega
        subst hkk
        clear ck cv
        refine (Sat.pIf ((0 : Int) < (↑A.length : Int) - (↑A.length : Int)) (by kernel_rfl) (fun _h67 => False.elim (by omega)) (fun _h67 =>
         (Sat.pCallE 29 ([AV.ref (Site.inc (0 : Nat)) (0 : Nat) (0 : Nat), AV.str [(116 : UInt8), (97 : UInt8), (103 : UInt8)]]) ([Blk.box (AV.agg [AV.tree (List.map encB b), AV.int IntKind.i64 (↑(Q + (attrsB (List.take A.length A)).length) : Int), AV.nili]) Bool.true]) (by kernel_rfl) rfl rfl (@ct)
         (Sat.pCallE 29 ([AV.ref (Site.inc (0 : Nat)) (0 : Nat) (0 : Nat), AV.str [(98 : UInt8), (111 : UInt8), (100 : UInt8), (121 : UInt8)]]) ([Blk.box (AV.agg [AV.tree (List.map encB b), AV.int IntKind.i64 (↑(Q + (attrsB (List.take A.length A)).length + (textB T).length) : Int), AV.nili]) Bool.true]) (by kernel_rfl) rfl rfl (@cy)
         (Sat.pNodeT true (by kernel_rfl) rfl (Sat.pNodeT true (by kernel_rfl) rfl (Sat.pNodeT true (by kernel_rfl) rfl (Sat.pNodeF false (by kernel_rfl) rfl (Sat.pNodeF false (by kernel_rfl) rfl
         (have _w68 : List.take (List.take A.length A).length (List.map encAttr (List.take A.length A)) = List.map encAttr (List.take A.length A) := List.take_of_length_le (by simp);
         (Sat.pCallE 22 ([AV.agg [AV.int IntKind.i64 I, AV.int IntKind.i64 L, AV.int IntKind.i64 R, AV.int IntKind.i64 N, AV.bool Bool.true, AV.tree (List.take (List.take A.length A).length (List.map encAttr (List.take A.length A))), AV.str T, AV.str Y]]) ([]) (by kernel_rfl) (by simp [List.take_of_length_le, encVersion]) rfl (@Go.Ab.Tryz.c22a (Version.mk I (Stamp.mk L R N) Bool.true (List.take A.length A) T Y) (by show (List.take A.length A).length ≤ (100000 : Nat); (clear ct cy again; (simp; omega))) (by show T.length ≤ (100000 : Nat); omega) (by show Y.length ≤ (100000 : Nat); omega))
         (Sat.pNodeF false (by kernel_rfl) rfl (Sat.pNodeT true (by kernel_rfl) rfl (Sat.pNodeF false (by kernel_rfl) rfl (Sat.pNodeT true (by kernel_rfl) rfl
         (Sat.pNodeF (!(Version.mk I (Stamp.mk L R N) Bool.true (List.take A.length A) T Y).may) (by kernel_rfl) (by rw [hmay]; rfl)
         (Sat.pRet (Res.mk (AV.agg [AV.int IntKind.i64 I, AV.int IntKind.i64 L, AV.int IntKind.i64 R, AV.int IntKind.i64 N, AV.bool Bool.true, AV.tree (List.take (List.take A.length A).length (List.map encAttr (List.take A.length A))), AV.str T, AV.str Y]) [Blk.box (AV.agg [AV.tree (List.map encB b), AV.int IntKind.i64 (↑(Q + (attrsB (List.take A.length A)).length + (textB T).length + (textB Y).length) : Int), AV.nili]) Bool.true] []) (by kernel_rfl) ?_)))))))))))))))))
        rw [hfin]; simp [encVersion, List.take_of_length_le]
  | false =>
    simp only [Bool.toNat_false] at e
    have l5 : (numB 0).length = 1 := by rw [numB_small (by omega)]; rfl
    have c1 := num_yes b [116, 104, 105, 110, 103] hbl (0) I (by omega) (by omega) (pre := []) ⟨_, e⟩ rfl
    have c2 := num_yes b [116, 105, 109, 101] hbl (0 + (numB I.toNat).length) L (by omega) (by omega) (pre := numB I.toNat) ⟨_, e⟩ (by omega)
    have c3 := num_yes b [114, 101, 112, 108, 105, 99, 97] hbl (0 + (numB I.toNat).length + (numB L.toNat).length) R (by omega) (by omega) (pre := numB I.toNat ++ numB L.toNat) ⟨_, by rw [e]; simp only [List.append_assoc, List.nil_append, Int.toNat_natCast]; rfl⟩ (by simp only [List.length_append]; omega)
    have c4 := num_yes b [110, 117, 109, 98, 101, 114] hbl (0 + (numB I.toNat).length + (numB L.toNat).length + (numB R.toNat).length) N (by omega) (by omega) (pre := numB I.toNat ++ numB L.toNat ++ numB R.toNat) ⟨_, by rw [e]; simp only [List.append_assoc, List.nil_append, Int.toNat_natCast]; rfl⟩ (by simp only [List.length_append]; omega)
    have c5 := num_yes b [101, 110, 100] hbl (0 + (numB I.toNat).length + (numB L.toNat).length + (numB R.toNat).length + (numB N.toNat).length) 0 (by omega) (by omega) (pre := numB I.toNat ++ numB L.toNat ++ numB R.toNat ++ numB N.toNat) ⟨_, by rw [e]; simp only [List.append_assoc]; rfl⟩ (by simp only [List.length_append]; omega)
    rw [show (numB (0 : Int).toNat).length = 1 by rw [show (0 : Int).toNat = 0 from rfl]; exact l5] at c5
    have c6 := num_yes b [97, 116, 116, 114, 105, 98, 117, 116, 101, 115] hbl (0 + (numB I.toNat).length + (numB L.toNat).length + (numB R.toNat).length + (numB N.toNat).length + 1) A.length (by omega) (by omega) (pre := numB I.toNat ++ numB L.toNat ++ numB R.toNat ++ numB N.toNat ++ numB 0) ⟨_, by rw [e]; simp only [List.append_assoc, List.nil_append, Int.toNat_natCast]; rfl⟩ (by simp only [List.length_append]; omega)
    obtain ⟨Q, hQ⟩ : ∃ Q, Q = 0 + (numB I.toNat).length + (numB L.toNat).length + (numB R.toNat).length + (numB N.toNat).length + 1 + (numB ((A.length : Nat) : Int).toNat).length := ⟨_, rfl⟩
    rw [← hQ] at c6
    obtain ⟨pre, hpre⟩ : ∃ pre, pre = numB I.toNat ++ numB L.toNat ++ numB R.toNat ++ numB N.toNat ++ numB 0 ++ numB A.length := ⟨_, rfl⟩
    have hQ2 : Q = pre.length := by rw [hQ, hpre]; simp only [List.length_append, Int.toNat_natCast] <;> omega
    have e2 : b = pre ++ (attrsB A ++ (textB T ++ (textB Y ++ rest))) := by rw [e, hpre]; simp only [List.append_assoc]
    have hQl : Q ≤ 100 := by
      have l1 := numB_len I.toNat (by omega); have l2 := numB_len L.toNat (by omega); have l3 := numB_len R.toNat (by omega); have l4 := numB_len N.toNat (by omega); have l6 := numB_len A.length (by omega)
      rw [hQ2, hpre]; simp only [List.length_append]; omega
    have hcut : ∀ (k : Nat) (a : Attr), A[k]? = some a → attrsB A = attrsB (A.take k) ++ (numB a.Key.toNat ++ (numB a.Val.toNat ++ attrsB (A.drop (k + 1)))) := fun k a ha => by
      conv => lhs; rw [← List.take_append_drop (k + 1) A]
      unfold attrsB
      rw [List.flatMap_append, take_succ ha, List.flatMap_append]
      simp
    have ck : ∀ (k : Nat) (a : Attr), A[k]? = some a → _ := fun k a ha => num_yes b [107, 101, 121] hbl (Q + (attrsB (A.take k)).length) a.Key (hav a (List.mem_of_getElem? ha)).1 (by have := hav a (List.mem_of_getElem? ha); omega) (pre := pre ++ attrsB (A.take k)) ⟨_, by rw [e2, hcut k a ha]; simp only [List.append_assoc]; rfl⟩ (by simp only [List.length_append]; omega)
    have cv : ∀ (k : Nat) (a : Attr), A[k]? = some a → _ := fun k a ha => num_yes b [118, 97, 108, 117, 101] hbl (Q + (attrsB (A.take k)).length + (numB a.Key.toNat).length) a.Val (hav a (List.mem_of_getElem? ha)).2.2.1 (by have := hav a (List.mem_of_getElem? ha); omega) (pre := pre ++ attrsB (A.take k) ++ numB a.Key.toNat) ⟨_, by rw [e2, hcut k a ha]; simp only [List.append_assoc]; rfl⟩ (by simp only [List.length_append]; omega)
    have ct := text_yes b [116, 97, 103] hbl (Q + (attrsB (A.take A.length)).length) T (by omega) (pre := pre ++ attrsB A) ⟨_, by rw [e2]; simp only [List.append_assoc]; rfl⟩ (by simp only [List.length_append, List.take_length]; omega)
    have cy := text_yes b [98, 111, 100, 121] hbl (Q + (attrsB (A.take A.length)).length + (textB T).length) Y (by omega) (pre := pre ++ attrsB A ++ textB T) ⟨_, by rw [e2]; simp only [List.append_assoc]; rfl⟩ (by simp only [List.length_append, List.take_length]; omega)
    have hfin : Q + (attrsB (A.take A.length)).length + (textB T).length + (textB Y).length = (putVers [] ⟨I, ⟨L, R, N⟩, false, A, T, Y⟩).length := by
      have h1 := congrArg List.length hb
      have h2 := congrArg List.length e2
      simp only [List.length_append] at h1 h2
      rw [List.take_length, hQ2]; omega
    have hmay : (Version.mk I ⟨L, R, N⟩ false (A.take A.length) T Y).may = true := by rw [List.take_length]; exact h
    clear hcut hb e e2 hpre hQ2 f
    refine spec_of ok Go.Proofs.Tryz.func17 ok17 ?_
    refine
     (Sat.pCallE 28 ([AV.ref (Site.inc (0 : Nat)) (0 : Nat) (0 : Nat), AV.str [(116 : UInt8), (104 : UInt8), (105 : UInt8), (110 : UInt8), (103 : UInt8)]]) ([Blk.box (AV.agg [AV.tree (List.map encB b), AV.int IntKind.i64 (0 : Int), AV.nili]) Bool.true]) (by kernel_rfl) rfl rfl (@c1)
     (Sat.pCallE 28 ([AV.ref (Site.inc (0 : Nat)) (0 : Nat) (0 : Nat), AV.str [(116 : UInt8), (105 : UInt8), (109 : UInt8), (101 : UInt8)]]) ([Blk.box (AV.agg [AV.tree (List.map encB b), AV.int IntKind.i64 (↑((0 : Nat) + (numB I.toNat).length) : Int), AV.nili]) Bool.true]) (by kernel_rfl) rfl rfl (@c2)
     (Sat.pCallE 28 ([AV.ref (Site.inc (0 : Nat)) (0 : Nat) (0 : Nat), AV.str [(114 : UInt8), (101 : UInt8), (112 : UInt8), (108 : UInt8), (105 : UInt8), (99 : UInt8), (97 : UInt8)]]) ([Blk.box (AV.agg [AV.tree (List.map encB b), AV.int IntKind.i64 (↑((0 : Nat) + (numB I.toNat).length + (numB L.toNat).length) : Int), AV.nili]) Bool.true]) (by kernel_rfl) rfl rfl (@c3)
     (Sat.pCallE 28 ([AV.ref (Site.inc (0 : Nat)) (0 : Nat) (0 : Nat), AV.str [(110 : UInt8), (117 : UInt8), (109 : UInt8), (98 : UInt8), (101 : UInt8), (114 : UInt8)]]) ([Blk.box (AV.agg [AV.tree (List.map encB b), AV.int IntKind.i64 (↑((0 : Nat) + (numB I.toNat).length + (numB L.toNat).length + (numB R.toNat).length) : Int), AV.nili]) Bool.true]) (by kernel_rfl) rfl rfl (@c4)
     (Sat.pCallE 28 ([AV.ref (Site.inc (0 : Nat)) (0 : Nat) (0 : Nat), AV.str [(101 : UInt8), (110 : UInt8), (100 : UInt8)]]) ([Blk.box (AV.agg [AV.tree (List.map encB b), AV.int IntKind.i64 (↑((0 : Nat) + (numB I.toNat).length + (numB L.toNat).length + (numB R.toNat).length + (numB N.toNat).length) : Int), AV.nili]) Bool.true]) (by kernel_rfl) rfl rfl (@c5)
     (Sat.pCallE 28 ([AV.ref (Site.inc (0 : Nat)) (0 : Nat) (0 : Nat), AV.str [(97 : UInt8), (116 : UInt8), (116 : UInt8), (114 : UInt8), (105 : UInt8), (98 : UInt8), (117 : UInt8), (116 : UInt8), (101 : UInt8), (115 : UInt8)]]) ([Blk.box (AV.agg [AV.tree (List.map encB b), AV.int IntKind.i64 (↑((0 : Nat) + (numB I.toNat).length + (numB L.toNat).length + (numB R.toNat).length + (numB N.toNat).length + (1 : Nat)) : Int), AV.nili]) Bool.true]) (by kernel_rfl) rfl rfl (@c6) ?_))))))
    clear c1 c2 c3 c4 c5 c6
    refine Sat.pLoop 6 (St.mk [((0 : Nat), AV.ref (Site.inc (0 : Nat)) (0 : Nat) (0 : Nat)), ((2 : Nat), AV.ref (Site.head (2 : Nat) (0 : Nat)) (0 : Nat) (0 : Nat)), ((3 : Nat), AV.int IntKind.i64 (0 : Int)), ((4 : Nat), AV.int IntKind.i64 (if (9 : Int) < (↑A.length : Int) then (9 : Int) else (↑A.length : Int)))] [(Site.inc (0 : Nat), Blk.box (AV.agg [AV.tree (List.map encB b), AV.int IntKind.i64 (↑Q : Int), AV.nili]) Bool.true), (Site.head (2 : Nat) (0 : Nat), Blk.box (AV.agg [AV.int IntKind.i64 I, AV.int IntKind.i64 L, AV.int IntKind.i64 R, AV.int IntKind.i64 N, AV.bool (decide ((0 : Int) = (1 : Int))), AV.sref (Site.head (2 : Nat) (1 : Nat)) (0 : Nat) (0 : Nat), AV.str [], AV.str []]) Bool.true), (Site.head (2 : Nat) (1 : Nat), Blk.row (2 : Nat) [] Bool.true Bool.true)]) (by kernel_rfl) (fun (p : Int × Nat × List Attr) => ⟨[(0, .ref (.inc 0) 0 0), (2, .ref (.head 2 0) 0 0), (3, .int .i64 0), (4, .int .i64 p.1)], [(.inc 0, .box (.agg [.tree (b.map encB), .int .i64 p.2.1, .nili]) true), (.head 2 0, .box (.agg [.int .i64 I, .int .i64 L, .int .i64 R, .int .i64 N, .bool false, .sref (.head 2 1) 0 p.2.2.length, .str [], .str []]) true), (.head 2 1, .row 2 (p.2.2.map encAttr) true true)]⟩) (fun p => ∃ k : Nat, k ≤ A.length ∧ p.1 = (A.length : Int) - k ∧ p.2.1 = Q + (attrsB (A.take k)).length ∧ p.2.2 = A.take k) (fun p => p.1.toNat) (A.length, Q, []) (by (rw [if_neg (by omega)]; simp; done)) ?_ ?_
    · exact ⟨0, by omega, by simp, by simp [attrsB], by simp⟩
    · rintro ⟨n, at1, l⟩ ⟨k, hk, e1, e2, e3⟩ again
      simp only at e1 e2 e3
      subst e1 e2 e3
      rcases Nat.lt_or_ge k A.length with hlt | hge
      · obtain ⟨a, ha⟩ : ∃ a, A[k]? = some a := ⟨A[k], by simp⟩
        have ck' := ck k a ha
        have cv' := cv k a ha
        clear ck cv ct cy
        have htk : (A.take k).length = k := by rw [List.length_take]; omega
        refine (Sat.pIf ((0 : Int) < (↑A.length : Int) - (↑k : Int)) (by kernel_rfl) (fun _h76 =>
         (Sat.pCallE 28 ([AV.ref (Site.inc (0 : Nat)) (0 : Nat) (0 : Nat), AV.str [(107 : UInt8), (101 : UInt8), (121 : UInt8)]]) ([Blk.box (AV.agg [AV.tree (List.map encB b), AV.int IntKind.i64 (↑(Q + (attrsB (List.take k A)).length) : Int), AV.nili]) Bool.true]) (by kernel_rfl) rfl rfl (@ck')
         (Sat.pCallE 28 ([AV.ref (Site.inc (0 : Nat)) (0 : Nat) (0 : Nat), AV.str [(118 : UInt8), (97 : UInt8), (108 : UInt8), (117 : UInt8), (101 : UInt8)]]) ([Blk.box (AV.agg [AV.tree (List.map encB b), AV.int IntKind.i64 (↑(Q + (attrsB (List.take k A)).length + (numB a.Key.toNat).length) : Int), AV.nili]) Bool.true]) (by kernel_rfl) rfl rfl (@cv')
         (Sat.pIfE (((List.take k A).length + (1 : Nat)) * (16 : Nat) ≤ (140737488355328 : Nat)) ((Min.min k A.length + (1 : Nat)) * (16 : Nat) ≤ (140737488355328 : Nat)) (by kernel_rfl) (by simp only [List.length_take])
         (fun _h77 => (Sat.pIfE ((List.take k A).length = (List.map encAttr (List.take k A)).length) (True) (by kernel_rfl) (by simp only [List.length_map]) (fun _h78 =>
         (have _w79 : IntKind.i64.wrap ((↑A.length : Int) - (↑k : Int) - (1 : Int)) = (↑A.length : Int) - (↑k : Int) - (1 : Int) := wI64 (by omega) (by omega);
         (Sat.pAgainE (St.mk [((0 : Nat), AV.ref (Site.inc (0 : Nat)) (0 : Nat) (0 : Nat)), ((2 : Nat), AV.ref (Site.head (2 : Nat) (0 : Nat)) (0 : Nat) (0 : Nat)), ((3 : Nat), AV.int IntKind.i64 (0 : Int)), ((4 : Nat), AV.int IntKind.i64 (IntKind.i64.wrap ((↑A.length : Int) - (↑k : Int) - (1 : Int))))] [(Site.inc (0 : Nat), Blk.box (AV.agg [AV.tree (List.map encB b), AV.int IntKind.i64 (↑(Q + (attrsB (List.take k A)).length + (numB a.Key.toNat).length + (numB a.Val.toNat).length) : Int), AV.nili]) Bool.true), (Site.head (2 : Nat) (0 : Nat), Blk.box (AV.agg [AV.int IntKind.i64 I, AV.int IntKind.i64 L, AV.int IntKind.i64 R, AV.int IntKind.i64 N, AV.bool Bool.false, AV.sref (Site.head (2 : Nat) (1 : Nat)) (0 : Nat) ((List.take k A).length + (1 : Nat)), AV.str [], AV.str []]) Bool.true), (Site.head (2 : Nat) (1 : Nat), Blk.row (2 : Nat) (List.map encAttr (List.take k A) ++ [AV.agg [AV.int IntKind.i64 a.Key, AV.int IntKind.i64 a.Val]]) Bool.true Bool.true)]) (by kernel_rfl) (by simp [encAttr, _w79]) (again (((↑A.length : Int) - (↑k : Int) - (1 : Int), Q + (attrsB (List.take k A)).length + (numB a.Key.toNat).length + (numB a.Val.toNat).length, List.take k A ++ [a])) ?_ (by (clear again ck' cv'; (dsimp only; omega)))))))
         (fun _h78 => (_h78 trivial).elim))) (fun _h77 => False.elim (by omega)))))) (fun _h76 => False.elim (by omega)))
        refine ⟨k + 1, by omega, ?_, ?_, ?_⟩
        · show (A.length : Int) - k - 1 = A.length - ((k + 1 : Nat) : Int); omega
        · show Q + (attrsB (A.take k)).length + (numB a.Key.toNat).length + (numB a.Val.toNat).length = _
          rw [attrsB_succ ha]; simp only [List.length_append]; omega
        · exact (take_succ ha).symm
      · have hkk : k = A.length := by omega
        subst hkk
        clear ck cv
        refine (Sat.pIf ((0 : Int) < (↑A.length : Int) - (↑A.length : Int)) (by kernel_rfl) (fun _h67 => False.elim (by omega)) (fun _h67 =>
         (Sat.pCallE 29 ([AV.ref (Site.inc (0 : Nat)) (0 : Nat) (0 : Nat), AV.str [(116 : UInt8), (97 : UInt8), (103 : UInt8)]]) ([Blk.box (AV.agg [AV.tree (List.map encB b), AV.int IntKind.i64 (↑(Q + (attrsB (List.take A.length A)).length) : Int), AV.nili]) Bool.true]) (by kernel_rfl) rfl rfl (@ct)
         (Sat.pCallE 29 ([AV.ref (Site.inc (0 : Nat)) (0 : Nat) (0 : Nat), AV.str [(98 : UInt8), (111 : UInt8), (100 : UInt8), (121 : UInt8)]]) ([Blk.box (AV.agg [AV.tree (List.map encB b), AV.int IntKind.i64 (↑(Q + (attrsB (List.take A.length A)).length + (textB T).length) : Int), AV.nili]) Bool.true]) (by kernel_rfl) rfl rfl (@cy)
         (Sat.pNodeT true (by kernel_rfl) rfl (Sat.pNodeT true (by kernel_rfl) rfl (Sat.pNodeT true (by kernel_rfl) rfl (Sat.pNodeF false (by kernel_rfl) rfl (Sat.pNodeF false (by kernel_rfl) rfl
         (have _w68 : List.take (List.take A.length A).length (List.map encAttr (List.take A.length A)) = List.map encAttr (List.take A.length A) := List.take_of_length_le (by simp);
         (Sat.pCallE 22 ([AV.agg [AV.int IntKind.i64 I, AV.int IntKind.i64 L, AV.int IntKind.i64 R, AV.int IntKind.i64 N, AV.bool Bool.false, AV.tree (List.take (List.take A.length A).length (List.map encAttr (List.take A.length A))), AV.str T, AV.str Y]]) ([]) (by kernel_rfl) (by simp [List.take_of_length_le, encVersion]) rfl (@Go.Ab.Tryz.c22a (Version.mk I (Stamp.mk L R N) Bool.false (List.take A.length A) T Y) (by show (List.take A.length A).length ≤ (100000 : Nat); (clear ct cy again; (simp; omega))) (by show T.length ≤ (100000 : Nat); omega) (by show Y.length ≤ (100000 : Nat); omega))
         (Sat.pNodeF false (by kernel_rfl) rfl (Sat.pNodeT true (by kernel_rfl) rfl (Sat.pNodeF false (by kernel_rfl) rfl (Sat.pNodeT true (by kernel_rfl) rfl
         (Sat.pNodeF (!(Version.mk I (Stamp.mk L R N) Bool.false (List.take A.length A) T Y).may) (by kernel_rfl) (by rw [hmay]; rfl)
         (Sat.pRet (Res.mk (AV.agg [AV.int IntKind.i64 I, AV.int IntKind.i64 L, AV.int IntKind.i64 R, AV.int IntKind.i64 N, AV.bool Bool.false, AV.tree (List.take (List.take A.length A).length (List.map encAttr (List.take A.length A))), AV.str T, AV.str Y]) [Blk.box (AV.agg [AV.tree (List.map encB b), AV.int IntKind.i64 (↑(Q + (attrsB (List.take A.length A)).length + (textB T).length + (textB Y).length) : Int), AV.nili]) Bool.true] []) (by kernel_rfl) ?_)))))))))))))))))
        rw [hfin]; simp [encVersion, List.take_of_length_le]
end Go.Ab.Tryz
