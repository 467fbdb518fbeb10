/- Packages vers, vput: which versions may be, in general; their bytes. -/
import Derived.Test.YtodelhgblkhjgaaGreatDoorVputf
namespace Go.Ab.Tryz
open Go
set_option maxRecDepth 100000
set_option maxHeartbeats 4000000
/-- Why a version may not be. -/
def encW : Option (List UInt8) → AV
  | none => .nili
  | some s => .iface 108 (.agg [.iface 86 (.cptr (.agg [.str s]))])
def wrongs : List (List UInt8) := [[116, 104, 105, 110, 103], [115, 116, 97, 109, 112], [97, 116, 116, 114, 105, 98, 117, 116, 101, 115], [116, 97, 103], [98, 111, 100, 121]]
theorem versCheck_ex (v : Version) (ha : v.Attrs.length ≤ 100000) (ht : v.Tag.length ≤ 100000) (hb : v.Body.length ≤ 100000) : ∃ e : Option (List UInt8), X.call 38 [encVersion v] [] ⟨encW e, [], []⟩ ∧ (e = none → v.may = true) ∧ (∀ s, e = some s → v.may = false ∧ s ∈ wrongs) := by
  refine spec_ex ok Go.Proofs.Tryz.func38 ok38 ?_
  refine (SatE.pIf (v.Item < (1 : Int)) (by kernel_rfl) (fun _h5 => (SatE.pIfET (v.Item < (1 : Int)) (v.Item < (1 : Int)) (by kernel_rfl) Iff.rfl _h5
   (SatE.pIfET (v.Item < (1 : Int)) (v.Item < (1 : Int)) (by kernel_rfl) Iff.rfl _h5 (SatE.pIfET (v.Item < (1 : Int)) (v.Item < (1 : Int)) (by kernel_rfl) Iff.rfl _h5 (SatE.pNodeT true (by kernel_rfl) rfl
   (SatE.pRet (Res.mk (AV.iface (108 : Nat) (AV.agg [AV.iface (86 : Nat) (AV.agg [AV.str [(116 : UInt8), (104 : UInt8), (105 : UInt8), (110 : UInt8), (103 : UInt8)]]).cptr])) [] []) (by kernel_rfl) ?_))))))
   (fun _h5 => (SatE.pIfEF (v.Item < (1 : Int)) (v.Item < (1 : Int)) (by kernel_rfl) Iff.rfl _h5 (SatE.pIfEF (v.Item < (1 : Int)) (v.Item < (1 : Int)) (by kernel_rfl) Iff.rfl _h5
   (SatE.pIfEF (v.Item < (1 : Int)) (v.Item < (1 : Int)) (by kernel_rfl) Iff.rfl _h5 (SatE.pIf ((6 : Int) < v.Item) (by kernel_rfl) (fun _h6 =>
   (SatE.pRet (Res.mk (AV.iface (108 : Nat) (AV.agg [AV.iface (86 : Nat) (AV.agg [AV.str [(116 : UInt8), (104 : UInt8), (105 : UInt8), (110 : UInt8), (103 : UInt8)]]).cptr])) [] []) (by kernel_rfl) ?_))
   (fun _h6 => (SatE.pCallE 45 ([AV.agg [AV.int IntKind.i64 v.S.L, AV.int IntKind.i64 v.S.R, AV.int IntKind.i64 v.S.N]]) ([]) (by kernel_rfl) rfl rfl (@Go.Ab.Tryz.c45a (v.S))
   (SatE.pNodeN (v.S.may) (by kernel_rfl) (fun _h7 =>
   (SatE.pRet (Res.mk (AV.iface (108 : Nat) (AV.agg [AV.iface (86 : Nat) (AV.agg [AV.str [(115 : UInt8), (116 : UInt8), (97 : UInt8), (109 : UInt8), (112 : UInt8)]]).cptr])) [] []) (by kernel_rfl) ?_))
   (fun _h7 => (SatE.pCallE 46 ([AV.tree (List.map encAttr v.Attrs)]) ([]) (by kernel_rfl) rfl rfl (@Go.Ab.Tryz.c46 (v.Attrs) (by assumption))
   (SatE.pNodeEN (attrsMay (-1 : Int) v.Attrs && decide (v.Attrs.length ≤ (3 : Nat))) (attrsMay (-1 : Int) v.Attrs = Bool.true ∧ v.Attrs.length ≤ (3 : Nat)) (by kernel_rfl) (by simp only [Bool.and_eq_true, decide_eq_true_eq])
   (fun _h8 =>
   (SatE.pRet (Res.mk (AV.iface (108 : Nat) (AV.agg [AV.iface (86 : Nat) (AV.agg [AV.str [(97 : UInt8), (116 : UInt8), (116 : UInt8), (114 : UInt8), (105 : UInt8), (98 : UInt8), (117 : UInt8), (116 : UInt8), (101 : UInt8), (115 : UInt8)]]).cptr])) [] []) (by kernel_rfl) ?_))
   (fun _h8 => (SatE.pCallE 47 ([AV.str v.Tag]) ([]) (by kernel_rfl) rfl rfl (@Go.Ab.Tryz.c47a (v.Tag) (by assumption))
   (SatE.pNodeEN (v.Tag.all isLetter && decide (v.Tag.length ≤ (6 : Nat))) (v.Tag.all isLetter = Bool.true ∧ v.Tag.length ≤ (6 : Nat)) (by kernel_rfl) (by simp only [Bool.and_eq_true, decide_eq_true_eq])
   (fun _h9 => (SatE.pRet (Res.mk (AV.iface (108 : Nat) (AV.agg [AV.iface (86 : Nat) (AV.agg [AV.str [(116 : UInt8), (97 : UInt8), (103 : UInt8)]]).cptr])) [] []) (by kernel_rfl) ?_)) (fun _h9 =>
   (SatE.pIfE ((12 : Int) < (↑v.Body.length : Int)) ((12 : Nat) < v.Body.length) (by kernel_rfl) (by simp only [ciLt]) (fun _h10 =>
   (SatE.pIfET ((12 : Int) < (↑v.Body.length : Int)) ((12 : Nat) < v.Body.length) (by kernel_rfl) (by simp only [ciLt]) _h10
   (SatE.pIfET ((12 : Int) < (↑v.Body.length : Int)) ((12 : Nat) < v.Body.length) (by kernel_rfl) (by simp only [ciLt]) _h10
   (SatE.pIfET ((12 : Int) < (↑v.Body.length : Int)) ((12 : Nat) < v.Body.length) (by kernel_rfl) (by simp only [ciLt]) _h10
   (SatE.pIfET ((12 : Int) < (↑v.Body.length : Int)) ((12 : Nat) < v.Body.length) (by kernel_rfl) (by simp only [ciLt]) _h10 (SatE.pNodeT true (by kernel_rfl) rfl
   (SatE.pRet (Res.mk (AV.iface (108 : Nat) (AV.agg [AV.iface (86 : Nat) (AV.agg [AV.str [(98 : UInt8), (111 : UInt8), (100 : UInt8), (121 : UInt8)]]).cptr])) [] []) (by kernel_rfl) ?_))))))) (fun _h10 =>
   (SatE.pIfEF ((12 : Int) < (↑v.Body.length : Int)) ((12 : Nat) < v.Body.length) (by kernel_rfl) (by simp only [ciLt]) _h10
   (SatE.pIfEF ((12 : Int) < (↑v.Body.length : Int)) ((12 : Nat) < v.Body.length) (by kernel_rfl) (by simp only [ciLt]) _h10 (SatE.pNode (v.Dead) (by kernel_rfl) (fun _h11 =>
   (SatE.pNodeT (v.Dead) (by kernel_rfl) _h11 (SatE.pNodeT (v.Dead) (by kernel_rfl) _h11
   (SatE.pIfEF ((12 : Int) < (↑v.Body.length : Int)) ((12 : Nat) < v.Body.length) (by kernel_rfl) (by simp only [ciLt]) _h10 (SatE.pNodeT (v.Dead) (by kernel_rfl) _h11
   (SatE.pIfEF ((12 : Int) < (↑v.Body.length : Int)) ((12 : Nat) < v.Body.length) (by kernel_rfl) (by simp only [ciLt]) _h10 (SatE.pIfN (v.Body = []) (by kernel_rfl) (fun _h12 =>
   (SatE.pRet (Res.mk (AV.iface (108 : Nat) (AV.agg [AV.iface (86 : Nat) (AV.agg [AV.str [(98 : UInt8), (111 : UInt8), (100 : UInt8), (121 : UInt8)]]).cptr])) [] []) (by kernel_rfl) ?_)) (fun _h12 =>
   (SatE.pRet (Res.mk AV.nili [] []) (by kernel_rfl) ?_))))))))) (fun _h11 => (SatE.pNodeF (v.Dead) (by kernel_rfl) _h11 (SatE.pNodeF (v.Dead) (by kernel_rfl) _h11
   (SatE.pIfEF ((12 : Int) < (↑v.Body.length : Int)) ((12 : Nat) < v.Body.length) (by kernel_rfl) (by simp only [ciLt]) _h10 (SatE.pNodeF (v.Dead) (by kernel_rfl) _h11
   (SatE.pIfEF ((12 : Int) < (↑v.Body.length : Int)) ((12 : Nat) < v.Body.length) (by kernel_rfl) (by simp only [ciLt]) _h10 (SatE.pNodeF false (by kernel_rfl) rfl
   (SatE.pRet (Res.mk AV.nili [] []) (by kernel_rfl) ?_)))))))))))))))))))))))))))))
  · exact ⟨some _, rfl, by simp, fun s hs => by cases hs; exact ⟨by simp [Version.may]; omega, by decide⟩⟩
  · exact ⟨some _, rfl, by simp, fun s hs => by cases hs; exact ⟨by simp [Version.may]; omega, by decide⟩⟩
  · exact ⟨some _, rfl, by simp, fun s hs => by cases hs; exact ⟨by simp [Version.may, *], by decide⟩⟩
  · exact ⟨some _, rfl, by simp, fun s hs => by cases hs; exact ⟨by simp [Version.may]; grind, by decide⟩⟩
  · exact ⟨some _, rfl, by simp, fun s hs => by cases hs; exact ⟨by simp [Version.may]; grind, by decide⟩⟩
  · exact ⟨some _, rfl, by simp, fun s hs => by cases hs; exact ⟨by simp [Version.may]; omega, by decide⟩⟩
  · exact ⟨some _, rfl, by simp, fun s hs => by cases hs; exact ⟨by simp [Version.may, *], by decide⟩⟩
  · exact ⟨none, rfl, fun _ => by simp [Version.may, *]; omega, fun s hs => by cases hs⟩
  · exact ⟨none, rfl, fun _ => by simp [Version.may, *]; omega, fun s hs => by cases hs⟩
theorem c22a (v : Version) (ha : v.Attrs.length ≤ 100000) (ht : v.Tag.length ≤ 100000) (hb : v.Body.length ≤ 100000) : X.call 22 [encVersion v] [] ⟨.bool v.may, [], []⟩ := by
  obtain ⟨e, hc, h1, h2⟩ := versCheck_ex v ha ht hb
  cases e with
  | none =>
    rw [h1 rfl]
    simp only [encW] at hc
    refine spec_of ok Go.Proofs.Tryz.func22 ok22 ?_
    refine
     (Sat.pCallE 38 ([AV.agg [AV.int IntKind.i64 v.Item, AV.int IntKind.i64 v.S.L, AV.int IntKind.i64 v.S.R, AV.int IntKind.i64 v.S.N, AV.bool v.Dead, AV.tree (List.map encAttr v.Attrs), AV.str v.Tag, AV.str v.Body]]) ([]) (by kernel_rfl) rfl rfl (@hc)
     (Sat.pCallE 18 ([AV.nili, AV.iface (88 : Nat) (AV.ref (Site.inc (0 : Nat)) (0 : Nat) (0 : Nat))]) ([Blk.box AV.nilp Bool.true]) (by kernel_rfl) rfl rfl (ev_ok envOk 1000 (18) ([AV.nili, AV.iface (88 : Nat) (AV.ref (Site.inc (0 : Nat)) (0 : Nat) (0 : Nat))]) ([Blk.box AV.nilp Bool.true]) (Res.mk (AV.bool Bool.false) [Blk.box AV.nilp Bool.true] []) (by kernel_rfl))
     (Sat.pRet (Res.mk (AV.bool !Bool.false) [] []) (by kernel_rfl) rfl)))
  | some s =>
    obtain ⟨h3, h4⟩ := h2 s rfl
    rw [h3]
    simp only [encW] at hc
    simp only [wrongs, List.mem_cons, List.not_mem_nil, or_false] at h4
    rcases h4 with rfl | rfl | rfl | rfl | rfl
    · refine spec_of ok Go.Proofs.Tryz.func22 ok22 ?_
      refine
       (Sat.pCallE 38 ([AV.agg [AV.int IntKind.i64 v.Item, AV.int IntKind.i64 v.S.L, AV.int IntKind.i64 v.S.R, AV.int IntKind.i64 v.S.N, AV.bool v.Dead, AV.tree (List.map encAttr v.Attrs), AV.str v.Tag, AV.str v.Body]]) ([]) (by kernel_rfl) rfl rfl (@hc)
       (Sat.pCallE 18 ([AV.iface (108 : TypeId) (AV.agg [AV.iface (86 : TypeId) (AV.agg [AV.str [(116 : UInt8), (104 : UInt8), (105 : UInt8), (110 : UInt8), (103 : UInt8)]]).cptr]), AV.iface (88 : Nat) (AV.ref (Site.inc (0 : Nat)) (0 : Nat) (0 : Nat))]) ([Blk.box AV.nilp Bool.true]) (by kernel_rfl) rfl rfl (ev_ok envOk 1000 (18) ([AV.iface (108 : TypeId) (AV.agg [AV.iface (86 : TypeId) (AV.agg [AV.str [(116 : UInt8), (104 : UInt8), (105 : UInt8), (110 : UInt8), (103 : UInt8)]]).cptr]), AV.iface (88 : Nat) (AV.ref (Site.inc (0 : Nat)) (0 : Nat) (0 : Nat))]) ([Blk.box AV.nilp Bool.true]) (Res.mk (AV.bool Bool.true) [Blk.box (AV.agg [AV.str [(116 : UInt8), (104 : UInt8), (105 : UInt8), (110 : UInt8), (103 : UInt8)]]).cptr Bool.true] []) (by kernel_rfl))
       (Sat.pRet (Res.mk (AV.bool !Bool.true) [] []) (by kernel_rfl) rfl)))
    · refine spec_of ok Go.Proofs.Tryz.func22 ok22 ?_
      refine
       (Sat.pCallE 38 ([AV.agg [AV.int IntKind.i64 v.Item, AV.int IntKind.i64 v.S.L, AV.int IntKind.i64 v.S.R, AV.int IntKind.i64 v.S.N, AV.bool v.Dead, AV.tree (List.map encAttr v.Attrs), AV.str v.Tag, AV.str v.Body]]) ([]) (by kernel_rfl) rfl rfl (@hc)
       (Sat.pCallE 18 ([AV.iface (108 : TypeId) (AV.agg [AV.iface (86 : TypeId) (AV.agg [AV.str [(115 : UInt8), (116 : UInt8), (97 : UInt8), (109 : UInt8), (112 : UInt8)]]).cptr]), AV.iface (88 : Nat) (AV.ref (Site.inc (0 : Nat)) (0 : Nat) (0 : Nat))]) ([Blk.box AV.nilp Bool.true]) (by kernel_rfl) rfl rfl (ev_ok envOk 1000 (18) ([AV.iface (108 : TypeId) (AV.agg [AV.iface (86 : TypeId) (AV.agg [AV.str [(115 : UInt8), (116 : UInt8), (97 : UInt8), (109 : UInt8), (112 : UInt8)]]).cptr]), AV.iface (88 : Nat) (AV.ref (Site.inc (0 : Nat)) (0 : Nat) (0 : Nat))]) ([Blk.box AV.nilp Bool.true]) (Res.mk (AV.bool Bool.true) [Blk.box (AV.agg [AV.str [(115 : UInt8), (116 : UInt8), (97 : UInt8), (109 : UInt8), (112 : UInt8)]]).cptr Bool.true] []) (by kernel_rfl))
       (Sat.pRet (Res.mk (AV.bool !Bool.true) [] []) (by kernel_rfl) rfl)))
    · refine spec_of ok Go.Proofs.Tryz.func22 ok22 ?_
      refine
       (Sat.pCallE 38 ([AV.agg [AV.int IntKind.i64 v.Item, AV.int IntKind.i64 v.S.L, AV.int IntKind.i64 v.S.R, AV.int IntKind.i64 v.S.N, AV.bool v.Dead, AV.tree (List.map encAttr v.Attrs), AV.str v.Tag, AV.str v.Body]]) ([]) (by kernel_rfl) rfl rfl (@hc)
       (Sat.pCallE 18 ([AV.iface (108 : TypeId) (AV.agg [AV.iface (86 : TypeId) (AV.agg [AV.str [(97 : UInt8), (116 : UInt8), (116 : UInt8), (114 : UInt8), (105 : UInt8), (98 : UInt8), (117 : UInt8), (116 : UInt8), (101 : UInt8), (115 : UInt8)]]).cptr]), AV.iface (88 : Nat) (AV.ref (Site.inc (0 : Nat)) (0 : Nat) (0 : Nat))]) ([Blk.box AV.nilp Bool.true]) (by kernel_rfl) rfl rfl (ev_ok envOk 1000 (18) ([AV.iface (108 : TypeId) (AV.agg [AV.iface (86 : TypeId) (AV.agg [AV.str [(97 : UInt8), (116 : UInt8), (116 : UInt8), (114 : UInt8), (105 : UInt8), (98 : UInt8), (117 : UInt8), (116 : UInt8), (101 : UInt8), (115 : UInt8)]]).cptr]), AV.iface (88 : Nat) (AV.ref (Site.inc (0 : Nat)) (0 : Nat) (0 : Nat))]) ([Blk.box AV.nilp Bool.true]) (Res.mk (AV.bool Bool.true) [Blk.box (AV.agg [AV.str [(97 : UInt8), (116 : UInt8), (116 : UInt8), (114 : UInt8), (105 : UInt8), (98 : UInt8), (117 : UInt8), (116 : UInt8), (101 : UInt8), (115 : UInt8)]]).cptr Bool.true] []) (by kernel_rfl))
       (Sat.pRet (Res.mk (AV.bool !Bool.true) [] []) (by kernel_rfl) rfl)))
    · refine spec_of ok Go.Proofs.Tryz.func22 ok22 ?_
      refine
       (Sat.pCallE 38 ([AV.agg [AV.int IntKind.i64 v.Item, AV.int IntKind.i64 v.S.L, AV.int IntKind.i64 v.S.R, AV.int IntKind.i64 v.S.N, AV.bool v.Dead, AV.tree (List.map encAttr v.Attrs), AV.str v.Tag, AV.str v.Body]]) ([]) (by kernel_rfl) rfl rfl (@hc)
       (Sat.pCallE 18 ([AV.iface (108 : TypeId) (AV.agg [AV.iface (86 : TypeId) (AV.agg [AV.str [(116 : UInt8), (97 : UInt8), (103 : UInt8)]]).cptr]), AV.iface (88 : Nat) (AV.ref (Site.inc (0 : Nat)) (0 : Nat) (0 : Nat))]) ([Blk.box AV.nilp Bool.true]) (by kernel_rfl) rfl rfl (ev_ok envOk 1000 (18) ([AV.iface (108 : TypeId) (AV.agg [AV.iface (86 : TypeId) (AV.agg [AV.str [(116 : UInt8), (97 : UInt8), (103 : UInt8)]]).cptr]), AV.iface (88 : Nat) (AV.ref (Site.inc (0 : Nat)) (0 : Nat) (0 : Nat))]) ([Blk.box AV.nilp Bool.true]) (Res.mk (AV.bool Bool.true) [Blk.box (AV.agg [AV.str [(116 : UInt8), (97 : UInt8), (103 : UInt8)]]).cptr Bool.true] []) (by kernel_rfl))
       (Sat.pRet (Res.mk (AV.bool !Bool.true) [] []) (by kernel_rfl) rfl)))
    · refine spec_of ok Go.Proofs.Tryz.func22 ok22 ?_
      refine
       (Sat.pCallE 38 ([AV.agg [AV.int IntKind.i64 v.Item, AV.int IntKind.i64 v.S.L, AV.int IntKind.i64 v.S.R, AV.int IntKind.i64 v.S.N, AV.bool v.Dead, AV.tree (List.map encAttr v.Attrs), AV.str v.Tag, AV.str v.Body]]) ([]) (by kernel_rfl) rfl rfl (@hc)
       (Sat.pCallE 18 ([AV.iface (108 : TypeId) (AV.agg [AV.iface (86 : TypeId) (AV.agg [AV.str [(98 : UInt8), (111 : UInt8), (100 : UInt8), (121 : UInt8)]]).cptr]), AV.iface (88 : Nat) (AV.ref (Site.inc (0 : Nat)) (0 : Nat) (0 : Nat))]) ([Blk.box AV.nilp Bool.true]) (by kernel_rfl) rfl rfl (ev_ok envOk 1000 (18) ([AV.iface (108 : TypeId) (AV.agg [AV.iface (86 : TypeId) (AV.agg [AV.str [(98 : UInt8), (111 : UInt8), (100 : UInt8), (121 : UInt8)]]).cptr]), AV.iface (88 : Nat) (AV.ref (Site.inc (0 : Nat)) (0 : Nat) (0 : Nat))]) ([Blk.box AV.nilp Bool.true]) (Res.mk (AV.bool Bool.true) [Blk.box (AV.agg [AV.str [(98 : UInt8), (111 : UInt8), (100 : UInt8), (121 : UInt8)]]).cptr Bool.true] []) (by kernel_rfl))
       (Sat.pRet (Res.mk (AV.bool !Bool.true) [] []) (by kernel_rfl) rfl)))
theorem c10a (v : Version) (h : v.may = false) (ha : v.Attrs.length ≤ 100000) (ht : v.Tag.length ≤ 100000) (hb : v.Body.length ≤ 100000) : X.call 10 [.tree [], encVersion v] [] ⟨.tree [], [], []⟩ := by
  refine spec_of ok Go.Proofs.Tryz.func10 ok10 ?_
  refine (Sat.pEsz ([]) (1) (by kernel_rfl) (by simp) (Sat.pNodeT true (by kernel_rfl) rfl (Sat.pNodeT true (by kernel_rfl) rfl
   (Sat.pCallE 22 ([AV.agg [AV.int IntKind.i64 v.Item, AV.int IntKind.i64 v.S.L, AV.int IntKind.i64 v.S.R, AV.int IntKind.i64 v.S.N, AV.bool v.Dead, AV.tree (List.map encAttr v.Attrs), AV.str v.Tag, AV.str v.Body]]) ([]) (by kernel_rfl) rfl rfl (@Go.Ab.Tryz.c22a (v) (by assumption) (by assumption) (by assumption))
   (Sat.pNodeT (!v.may) (by kernel_rfl) (by rw [h]; rfl) (Sat.pRet (Res.mk (AV.tree []) [] []) (by kernel_rfl) rfl))))))
theorem c10b (v : Version) (h : v.may = true) : X.call 10 [.tree [], encVersion v] [] ⟨.tree ((putVers [] v).map encB), [], []⟩ := by
  have f := Version.may_fit h
  have hal := f.al
  have htl := f.tl
  have hbl := f.bl
  refine spec_of ok Go.Proofs.Tryz.func10 ok10 ?_
  have again_l : ∀ d : Int, (d = if v.Dead then 1 else 0) → Sat X 10 (loopD X.cfg 10 Go.Proofs.Tryz.f10 0 9 ⟨[(0, .tree []), (3, .ref (.head 3 0) 0 0), (6, .sref (.head 6 0) 0 6), (37, .tree (v.Attrs.map encAttr)), (38, .int .i64 v.Attrs.length), (39, .int .i64 0)], [(.head 3 0, .box (encVersion v) true), (.head 6 0, .row 1 [.int .i64 v.Item, .int .i64 v.S.L, .int .i64 v.S.R, .int .i64 v.S.N, .int .i64 d, .int .i64 v.Attrs.length] true true)]⟩) (· = ⟨.tree ((putVers [] v).map encB), [], []⟩) := by
    intro d hd
    refine Sat.pLoop 9 (St.mk [((0 : Nat), AV.tree []), ((3 : Nat), AV.ref (Site.head (3 : Nat) (0 : Nat)) (0 : Nat) (0 : Nat)), ((6 : Nat), AV.sref (Site.head (6 : Nat) (0 : Nat)) (0 : Nat) (6 : Nat)), ((37 : Nat), AV.tree (List.map encAttr v.Attrs)), ((38 : Nat), AV.int IntKind.i64 (↑v.Attrs.length : Int)), ((39 : Nat), AV.int IntKind.i64 (0 : Int))] [(Site.head (3 : Nat) (0 : Nat), Blk.box (encVersion v) Bool.true), (Site.head (6 : Nat) (0 : Nat), Blk.row (1 : Nat) [AV.int IntKind.i64 v.Item, AV.int IntKind.i64 v.S.L, AV.int IntKind.i64 v.S.R, AV.int IntKind.i64 v.S.N, AV.int IntKind.i64 d, AV.int IntKind.i64 (↑v.Attrs.length : Int)] Bool.true Bool.true)]) (by kernel_rfl) (fun (k : Nat) => ⟨[(0, .tree []), (3, .ref (.head 3 0) 0 0), (6, .sref (.head 6 0) 0 (numsOf v d k).length), (37, .tree (v.Attrs.map encAttr)), (38, .int .i64 v.Attrs.length), (39, .int .i64 k)], [(.head 3 0, .box (encVersion v) true), (.head 6 0, .row 1 ((numsOf v d k).map encI) true true)]⟩) (fun k => k ≤ v.Attrs.length) (fun k => v.Attrs.length - k) 0 rfl ?_ ?_
    · omega
    · intro k hk again
      have hn := numsOf_len v d k
      refine (Sat.pIfE ((↑k : Int) < (↑v.Attrs.length : Int)) (k < v.Attrs.length) (by kernel_rfl) (by simp only [Int.ofNat_lt]) (fun _h13 => (Sat.pNodeT true (by kernel_rfl) rfl
       (Sat.pElemM (encAttr) (v.Attrs) (List.map encAttr v.Attrs) (k) (by kernel_rfl) rfl (by assumption) (fun _x14 _hx15 =>
       (Sat.pIf (((numsOf v d k).length + (2 : Nat)) * (8 : Nat) ≤ (140737488355328 : Nat)) (by kernel_rfl) (fun _h16 =>
       (Sat.pIfE ((numsOf v d k).length = (List.map encI (numsOf v d k)).length) (True) (by kernel_rfl) (by simp only [List.length_map]) (fun _h17 =>
       (have _w18 : IntKind.i64.wrap ((↑k : Int) + (1 : Int)) = (↑k : Int) + (1 : Int) := wI64 (by omega) (by omega);
       (Sat.pAgainE (St.mk [((0 : Nat), AV.tree []), ((3 : Nat), AV.ref (Site.head (3 : Nat) (0 : Nat)) (0 : Nat) (0 : Nat)), ((6 : Nat), AV.sref (Site.head (6 : Nat) (0 : Nat)) (0 : Nat) ((numsOf v d k).length + (2 : Nat))), ((37 : Nat), AV.tree (List.map encAttr v.Attrs)), ((38 : Nat), AV.int IntKind.i64 (↑v.Attrs.length : Int)), ((39 : Nat), AV.int IntKind.i64 (IntKind.i64.wrap ((↑k : Int) + (1 : Int))))] [(Site.head (3 : Nat) (0 : Nat), Blk.box (AV.agg [AV.int IntKind.i64 v.Item, AV.int IntKind.i64 v.S.L, AV.int IntKind.i64 v.S.R, AV.int IntKind.i64 v.S.N, AV.bool v.Dead, AV.tree (List.map encAttr v.Attrs), AV.str v.Tag, AV.str v.Body]) Bool.true), (Site.head (6 : Nat) (0 : Nat), Blk.row (1 : Nat) (List.map encI (numsOf v d k) ++ [AV.int IntKind.i64 _x14.Key, AV.int IntKind.i64 _x14.Val]) Bool.true Bool.true)]) (by kernel_rfl) (by (clear again; (rw [numsOf_succ (by assumption)]; simp [encI, encVersion, *]; done))) (again (k + (1 : Nat)) (by omega) (by omega)))))
       (fun _h17 => (_h17 trivial).elim))) (fun _h16 => False.elim (by omega))))))) (fun _h13 => ?_))
      have hkk : k = v.Attrs.length := by omega
      subst hkk
      have hin := numsOf_in (d := d) (k := v.Attrs.length) f (by rw [hd]; split <;> omega) (by rw [hd]; split <;> omega)
      have hall := numsB_all v d hd
      generalize numsOf v d v.Attrs.length = nums at *
      refine Sat.pLoop 14 (St.mk [((0 : Nat), AV.tree []), ((3 : Nat), AV.ref (Site.head (3 : Nat) (0 : Nat)) (0 : Nat) (0 : Nat)), ((51 : Nat), AV.sref (Site.head (51 : Nat) (0 : Nat)) (0 : Nat) nums.length), ((52 : Nat), AV.int IntKind.i64 (↑nums.length : Int)), ((53 : Nat), AV.int IntKind.i64 (0 : Int))] [(Site.head (3 : Nat) (0 : Nat), Blk.box (AV.agg [AV.int IntKind.i64 v.Item, AV.int IntKind.i64 v.S.L, AV.int IntKind.i64 v.S.R, AV.int IntKind.i64 v.S.N, AV.bool v.Dead, AV.tree (List.map encAttr v.Attrs), AV.str v.Tag, AV.str v.Body]) Bool.true), (Site.head (51 : Nat) (0 : Nat), Blk.row (1 : Nat) (List.map encI nums) Bool.true Bool.true)]) (by kernel_rfl) (fun (p : Nat × List UInt8) => ⟨[(0, .tree (p.2.map encB)), (3, .ref (.head 3 0) 0 0), (51, .sref (.head 51 0) 0 nums.length), (52, .int .i64 nums.length), (53, .int .i64 p.1)], [(.head 3 0, .box (encVersion v) true), (.head 51 0, .row 1 (nums.map encI) true true)]⟩) (fun p => p.1 ≤ nums.length ∧ p.2.length ≤ 5 * p.1 ∧ p.2 = numsB (nums.take p.1)) (fun p => nums.length - p.1) (0, []) rfl ?_ ?_
      · exact ⟨by omega, by simp, rfl⟩
      · rintro ⟨j, acc⟩ hJ again2
        obtain ⟨j1, j2, j3⟩ := hJ
        simp only at j1 j2 j3
        refine (Sat.pIfE ((↑j : Int) < (↑nums.length : Int)) (j < nums.length) (by kernel_rfl) (by simp only [Int.ofNat_lt]) (fun _h24 =>
         (Sat.pIfE ((0 : Int) ≤ (↑j : Int) ∧ (↑j : Int) < (↑nums.length : Int)) ((0 : Nat) ≤ j ∧ j < nums.length) (by kernel_rfl) (by simp only [Int.ofNat_lt, ciLe]) (fun _h25 =>
         (Sat.pElemM (encI) (nums) (List.map encI nums) (j) (by kernel_rfl) rfl (by assumption) (fun _x26 _hx27 => (have _hc28 := (hin _x26 (List.mem_of_getElem? _hx27)).1;
         (have _hc29 := (hin _x26 (List.mem_of_getElem? _hx27)).2; (have _hc30 := ((@Go.Ab.Tryz.c23 (acc) (_x26) (by omega) (by assumption) (by omega))).2;
         (have _hn31 : acc.length + (numB _x26.toNat).length ≤ acc.length + (5 : Nat) := Iff.mp (by simp only [List.length_append]) _hc30;
         (Sat.pCallE 23 ([AV.tree (List.map encB acc), AV.int IntKind.i64 _x26]) ([]) (by kernel_rfl) rfl rfl ((@Go.Ab.Tryz.c23 (acc) (_x26) (by omega) (by assumption) (by omega))).1
         (have _w32 : List.take (acc ++ numB _x26.toNat).length (List.map encB (acc ++ numB _x26.toNat)) = List.map encB (acc ++ numB _x26.toNat) := List.take_of_length_le (by simp);
         (have _w33 : IntKind.i64.wrap ((↑j : Int) + (1 : Int)) = (↑j : Int) + (1 : Int) := wI64 (by omega) (by omega);
         (Sat.pAgainE (St.mk [((0 : Nat), AV.tree (List.take (acc ++ numB _x26.toNat).length (List.map encB (acc ++ numB _x26.toNat)))), ((3 : Nat), AV.ref (Site.head (3 : Nat) (0 : Nat)) (0 : Nat) (0 : Nat)), ((51 : Nat), AV.sref (Site.head (51 : Nat) (0 : Nat)) (0 : Nat) nums.length), ((52 : Nat), AV.int IntKind.i64 (↑nums.length : Int)), ((53 : Nat), AV.int IntKind.i64 (IntKind.i64.wrap ((↑j : Int) + (1 : Int))))] [(Site.head (3 : Nat) (0 : Nat), Blk.box (AV.agg [AV.int IntKind.i64 v.Item, AV.int IntKind.i64 v.S.L, AV.int IntKind.i64 v.S.R, AV.int IntKind.i64 v.S.N, AV.bool v.Dead, AV.tree (List.map encAttr v.Attrs), AV.str v.Tag, AV.str v.Body]) Bool.true), (Site.head (51 : Nat) (0 : Nat), Blk.row (1 : Nat) (List.map encI nums) Bool.true Bool.true)]) (by kernel_rfl) (by simp [List.take_of_length_le, encVersion, _w33]) (again2 ((j + (1 : Nat), acc ++ numB _x26.toNat)) ⟨(by show j + (1 : Nat) ≤ nums.length; omega), ⟨(by show (acc ++ numB _x26.toNat).length ≤ (5 : Nat) * (j + (1 : Nat)); omega), (by show acc ++ numB _x26.toNat = numsB (List.take (j + (1 : Nat)) nums); (clear again again2; (rw [numsB_succ (by assumption), j3]; done)))⟩⟩ (by show nums.length - (j + (1 : Nat)) < nums.length - j; omega)))))))))))))
         (fun _h25 => False.elim (by omega)))) (fun _h24 => (have _hc34 := ((@Go.Ab.Tryz.c24 (acc) (v.Tag) (by omega) (by omega))).2;
         (have _hn35 : acc.length + (textB v.Tag).length ≤ acc.length + (5 : Nat) + v.Tag.length := Iff.mp (by simp only [List.length_append]) _hc34;
         (Sat.pCallE 24 ([AV.tree (List.map encB acc), AV.str v.Tag]) ([]) (by kernel_rfl) rfl rfl ((@Go.Ab.Tryz.c24 (acc) (v.Tag) (by omega) (by omega))).1
         (have _w36 : List.take (acc ++ textB v.Tag).length (List.map encB (acc ++ textB v.Tag)) = List.map encB (acc ++ textB v.Tag) := List.take_of_length_le (by simp);
         (have _hc37 := ((@Go.Ab.Tryz.c24 (acc ++ textB v.Tag) (v.Body) (by omega) (by omega))).2;
         (have _hn38 : acc.length + (textB v.Tag).length + (textB v.Body).length ≤ acc.length + (textB v.Tag).length + (5 : Nat) + v.Body.length := Iff.mp (by simp only [List.length_append]) _hc37;
         (Sat.pCallE 24 ([AV.tree (List.take (acc ++ textB v.Tag).length (List.map encB (acc ++ textB v.Tag))), AV.str v.Body]) ([]) (by kernel_rfl) (by simp only [_w36]) rfl ((@Go.Ab.Tryz.c24 (acc ++ textB v.Tag) (v.Body) (by omega) (by omega))).1
         (have _w39 : List.take (acc ++ textB v.Tag ++ textB v.Body).length (List.map encB (acc ++ textB v.Tag ++ textB v.Body)) = List.map encB (acc ++ textB v.Tag ++ textB v.Body) := List.take_of_length_le (by simp);
         (Sat.pRet (Res.mk (AV.tree (List.take (acc ++ textB v.Tag ++ textB v.Body).length (List.map encB (acc ++ textB v.Tag ++ textB v.Body)))) [] []) (by kernel_rfl) (by (clear again again2; (rw [List.take_of_length_le (by omega), hall] at j3; simp [putVers, List.take_of_length_le, *]; done))))))))))))))
  refine (Sat.pEsz ([]) (1) (by kernel_rfl) (by simp) (Sat.pNodeT true (by kernel_rfl) rfl (Sat.pNodeT true (by kernel_rfl) rfl
   (Sat.pCallE 22 ([AV.agg [AV.int IntKind.i64 v.Item, AV.int IntKind.i64 v.S.L, AV.int IntKind.i64 v.S.R, AV.int IntKind.i64 v.S.N, AV.bool v.Dead, AV.tree (List.map encAttr v.Attrs), AV.str v.Tag, AV.str v.Body]]) ([]) (by kernel_rfl) rfl rfl (@Go.Ab.Tryz.c22a (v) (by omega) (by omega) (by omega))
   (Sat.pNodeF (!v.may) (by kernel_rfl) (by rw [h]; rfl) (Sat.pNode (v.Dead) (by kernel_rfl) (fun _h8 =>
   (Sat.pJoinE (L := loopD X.cfg (10 : FuncId) Proofs.Tryz.f10 (0 : Nat) (9 : Nat)) (St.mk [((0 : Nat), AV.tree []), ((3 : Nat), AV.ref (Site.head (3 : Nat) (0 : Nat)) (0 : Nat) (0 : Nat)), ((6 : Nat), AV.sref (Site.head (6 : Nat) (0 : Nat)) (0 : Nat) (6 : Nat)), ((37 : Nat), AV.tree (List.map encAttr v.Attrs)), ((38 : Nat), AV.int IntKind.i64 (↑(List.map encAttr v.Attrs).length : Int)), ((39 : Nat), AV.int IntKind.i64 (0 : Int))] [(Site.head (3 : Nat) (0 : Nat), Blk.box (AV.agg [AV.int IntKind.i64 v.Item, AV.int IntKind.i64 v.S.L, AV.int IntKind.i64 v.S.R, AV.int IntKind.i64 v.S.N, AV.bool v.Dead, AV.tree (List.map encAttr v.Attrs), AV.str v.Tag, AV.str v.Body]) Bool.true), (Site.head (6 : Nat) (0 : Nat), Blk.row (1 : Nat) [AV.int IntKind.i64 v.Item, AV.int IntKind.i64 v.S.L, AV.int IntKind.i64 v.S.R, AV.int IntKind.i64 v.S.N, AV.int IntKind.i64 (1 : Int), AV.int IntKind.i64 (↑(List.map encAttr v.Attrs).length : Int)] Bool.true Bool.true)]) (by kernel_rfl) (by simp [encVersion]) rfl (again_l ((1 : Int)) (by (clear again_l; (simp; omega))))))
   (fun _h8 =>
   (Sat.pJoinE (L := loopD X.cfg (10 : FuncId) Proofs.Tryz.f10 (0 : Nat) (9 : Nat)) (St.mk [((0 : Nat), AV.tree []), ((3 : Nat), AV.ref (Site.head (3 : Nat) (0 : Nat)) (0 : Nat) (0 : Nat)), ((6 : Nat), AV.sref (Site.head (6 : Nat) (0 : Nat)) (0 : Nat) (6 : Nat)), ((37 : Nat), AV.tree (List.map encAttr v.Attrs)), ((38 : Nat), AV.int IntKind.i64 (↑(List.map encAttr v.Attrs).length : Int)), ((39 : Nat), AV.int IntKind.i64 (0 : Int))] [(Site.head (3 : Nat) (0 : Nat), Blk.box (AV.agg [AV.int IntKind.i64 v.Item, AV.int IntKind.i64 v.S.L, AV.int IntKind.i64 v.S.R, AV.int IntKind.i64 v.S.N, AV.bool v.Dead, AV.tree (List.map encAttr v.Attrs), AV.str v.Tag, AV.str v.Body]) Bool.true), (Site.head (6 : Nat) (0 : Nat), Blk.row (1 : Nat) [AV.int IntKind.i64 v.Item, AV.int IntKind.i64 v.S.L, AV.int IntKind.i64 v.S.R, AV.int IntKind.i64 v.S.N, AV.int IntKind.i64 (0 : Int), AV.int IntKind.i64 (↑(List.map encAttr v.Attrs).length : Int)] Bool.true Bool.true)]) (by kernel_rfl) (by simp [encVersion]) rfl (again_l ((0 : Int)) (by (clear again_l; (simp; omega))))))))))))
end Go.Ab.Tryz
