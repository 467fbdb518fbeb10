/- Package seen: heads with another one. -/
import Derived.Test.YtmppanboolejjaaGreatRank3
namespace Go.Ab.Tryz
open Go
set_option maxRecDepth 100000
set_option maxHeartbeats 4000000
theorem c76 (l : List Head) (h : Head) (hp : l.Pairwise (fun a b => a.Item < b.Item)) (hl : l.length ≤ 900) : X.call 76 [.tree (l.map encHead),encHead h] [] ⟨.tree ((putHead l h).map encHead),[],[]⟩ := by
  have cA := c43 l h.Item hp (by omega)
  have cP := c77 l h.Item hp (by omega)
  by_cases hle : h.S.cmp (headAt l h.Item) ≤ 0
  · have e : putHead l h = l := if_pos hle
    rw [e]
    refine spec_of ok Go.Proofs.Tryz.func76 ok76 ?_
    refine (.c (@Tryz.c115 (l) (by omega))
     (have _w9 : List.take l.length (List.map encHead l) = List.map encHead l := List.take_of_length_le (by simp); .C ([.tree (List.take l.length (List.map encHead l)),.int .i64 h.Item]) ([]) (by simp only [_w9]) rfl (@cA)
     (.c (@Tryz.c61 (h.S) (headAt l h.Item)) (.it hle (.q (Res.mk (.tree (List.take l.length (List.map encHead l))) [] []) (by simp [List.take_of_length_le]; done))))))
  · have e : putHead l h = insGo l h := if_neg hle
    rw [e]
    have hpl := posOf_le l h.Item
    cases hf : foundAt l (posOf l h.Item) h.Item with
    | true =>
      obtain ⟨x,hx,hi⟩ := foundAt_some hf
      rw [← insGo_found hp hx hi]
      rw [hf] at cP
      have hlt := (List.getElem?_eq_some_iff.1 hx).1
      generalize posOf l h.Item = pos at *
      refine spec_of ok Go.Proofs.Tryz.func76 ok76 ?_
      refine (.c (@Tryz.c115 (l) (by omega))
       (have _w21 : List.take l.length (List.map encHead l) = List.map encHead l := List.take_of_length_le (by simp); .C ([.tree (List.take l.length (List.map encHead l)),.int .i64 h.Item]) ([]) (by simp only [_w21]) rfl (@cA)
       (.c (@Tryz.c61 (h.S) (headAt l h.Item)) (.iF hle (.C ([.tree (List.take l.length (List.map encHead l)),.int .i64 h.Item]) ([]) (by simp only [_w21]) rfl (@cP) (.T
       (.k (0 ≤ (↑pos : Int) ∧ (↑pos : Int) < (↑l.length : Int)) (0 ≤ pos ∧ pos < l.length) (by simp only [Int.ofNat_lt,ciLe]) (fun _h22 => .eh encHead hx
       (have _w23 : List.take l.length ((List.map encHead l).set (↑pos : Int).toNat (encHead h)) = (List.map encHead l).set (↑pos : Int).toNat (encHead h) := List.take_of_length_le (by simp); .q (Res.mk
       (.tree (List.take l.length ((List.map encHead l).set (↑pos : Int).toNat (encHead h)))) [] []) (by simp [List.map_set,List.take_of_length_le,encHead]; done)))
       (fun _h22 => False.elim (by omega)))))))))
    | false =>
      rw [← insGo_new hp (foundAt_none hf)]
      rw [hf] at cP
      have cI : X.call 117 _ _ _ := insert117 (l.map encHead) (encHead h) (posOf l h.Item) (by simpa using hpl) (by simp; omega)
      rw [List.length_map] at cI
      generalize posOf l h.Item = pos at *
      refine spec_of ok Go.Proofs.Tryz.func76 ok76 ?_
      refine (.c (@Tryz.c115 (l) (by omega))
       (have _w15 : List.take l.length (List.map encHead l) = List.map encHead l := List.take_of_length_le (by simp); .C ([.tree (List.take l.length (List.map encHead l)),.int .i64 h.Item]) ([]) (by simp only [_w15]) rfl (@cA)
       (.c (@Tryz.c61 (h.S) (headAt l h.Item)) (.iF hle (.C ([.tree (List.take l.length (List.map encHead l)),.int .i64 h.Item]) ([]) (by simp only [_w15]) rfl (@cP) (.F (.c (@cI)
       (have _w16 : List.take (l.length + (1 : Nat)) (List.take pos (List.map encHead l) ++ encHead h :: List.drop pos (List.map encHead l)) = List.take pos (List.map encHead l) ++ encHead h :: List.drop pos (List.map encHead l) := List.take_of_length_le (by (clear cA cP cI; (simp only [List.length_map,List.length_append,List.length_take,List.length_drop,List.length_set,List.length_replicate,List.length_cons,List.length_nil,Int.toNat_natCast,List.isEmpty_map,List.isEmpty_iff,Bool.and_eq_true,Bool.or_eq_true,decide_eq_true_eq,Bool.not_eq_true',decide_eq_false_iff_not,Int.natCast_inj,UInt8.toNat_inj,Int.ofNat_lt,Int.ofNat_le,icLt,icLe,ciLt,ciLe,icEq,ne_eq,_w15]; omega))); .q (Res.mk
       (.tree (List.take (l.length + 1) (List.take pos (List.map encHead l) ++ encHead h :: List.drop pos (List.map encHead l)))) [] []) (by (clear cA cP cI; simp_all))))))))))
theorem insGo_mem : ∀ {l : List Head} {h a : Head},a ∈ insGo l h → a ∈ l ∨ a = h
  | [],h,a,ha => by simp [insGo] at ha; exact .inr ha
  | y :: l,h,a,ha => by
    unfold insGo at ha
    split at ha
    · rcases List.mem_cons.1 ha with ha | ha
      · exact .inr ha
      · exact .inl (List.mem_filter.1 ha).1
    · rcases List.mem_cons.1 ha with rfl | ha
      · exact .inl (List.mem_cons_self ..)
      · rcases insGo_mem ha with h | h
        · exact .inl (List.mem_cons_of_mem _ h)
        · exact .inr h
theorem insGo_ord : ∀ {l : List Head} {h : Head},l.Pairwise (fun a b => a.Item < b.Item) → (insGo l h).Pairwise (fun a b => a.Item < b.Item)
  | [],h,_ => by simp [insGo]
  | x :: l,h,hp => by
    obtain ⟨h1,h2⟩ := List.pairwise_cons.1 hp
    unfold insGo
    split
    · rename_i hle
      refine List.pairwise_cons.2 ⟨fun a ha => ?_,hp.filter _⟩
      obtain ⟨ha,hne⟩ := List.mem_filter.1 ha
      simp only [ne_eq,decide_not,Bool.not_eq_true',decide_eq_false_iff_not] at hne
      rcases List.mem_cons.1 ha with rfl | ha
      · omega
      · have := h1 a ha; omega
    · rename_i hle
      refine List.pairwise_cons.2 ⟨fun a ha => ?_,insGo_ord h2⟩
      rcases insGo_mem ha with ha | rfl
      · exact h1 a ha
      · omega
theorem putHead_ord {l : List Head} {h : Head} (hp : l.Pairwise (fun a b => a.Item < b.Item)) : (putHead l h).Pairwise (fun a b => a.Item < b.Item) := by
  unfold putHead; split
  · exact hp
  · exact insGo_ord hp
end Go.Ab.Tryz
