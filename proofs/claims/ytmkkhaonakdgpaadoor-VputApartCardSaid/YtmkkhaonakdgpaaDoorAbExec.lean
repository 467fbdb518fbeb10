/- Code as the runner says. -/
import Derived.Test.YtmkkhaonakdgpaaDoorAbRun
namespace Go.Ab
open Go
section
variable {Φg : Phi} {α : Type} {X : Ctx} {fid : FuncId} {P : Program} {N : Nat} {Q : α → Prop} {w₀ : World} {Φ₀ : Phi} {i₀ : LMap}

theorem frcT_eq {β : Type} : ∀ (T : Temps) (k : Temps → β), frcT T k = k T
  | [], _ => rfl
  | (t, v) :: r, k => by simp only [frcT, frc_eq]; exact frcT_eq r _
theorem frcSt_eq {β : Type} (s : St) (k : St → β) : frcSt s k = k s := by cases s; simp [frcSt, frcT_eq, frcH_eq]

/-- What is asked of code, once: numbers of temporaries, plans. -/
def CodeOk (cfg : Cfg) (fid N : Nat) : Code → Prop
  | .region id ops draw => DstOk N ops.toList ∧ (draw = true → Region.noSelect ops = true ∧ PlanOk ops (cfg.plan fid id) ops.size (Array.replicate ops.size false))
  | .seq a b => CodeOk cfg fid N a ∧ CodeOk cfg fid N b
  | .cond _ a b => CodeOk cfg fid N a ∧ CodeOk cfg fid N b
  | .block _ a => CodeOk cfg fid N a
  | .loop a => CodeOk cfg fid N a
  | _ => True

theorem Good.drawn {s : St} {a : Act} {w : World} (h : Good Φg Φ₀ i₀ w₀ N s a w) (d : Nat) : Good Φg Φ₀ i₀ w₀ N s a { w with drawn := d } := by
  obtain ⟨Φ, m, hT, hI, hG, hN, hD⟩ := h
  exact ⟨Φ, m, hT, ⟨hI.phi, fun s B hB => by
    cases B with
    | box v wr => obtain ⟨b, e, h⟩ := hI.blk s _ hB; exact ⟨b, e, ⟨h.loc, h.shape, h.cell, h.nf, h.phi⟩⟩
    | row e xs wr rm =>
      rcases hI.blk s _ hB with h | ⟨b, z, h⟩
      · exact .inl h
      · exact .inr ⟨b, z, ⟨h.loc, h.pos, h.len, h.shape, h.each, h.cell, h.nf, h.phi, h.room, h.one⟩⟩
    | gone => trivial, hI.map, hI.inj, hI.lt⟩, ⟨hG.phi, hG.phiNew, hG.inc, hG.own, hG.same, hG.size, hG.os, hG.out, hG.tape, hG.base⟩, hN, hD⟩

theorem region_ok (hX : CtxOk P Φg X) {id : Nat} {ops : Array Oper} {draw : Bool} (hc : CodeOk X.cfg fid N (.region id ops draw)) {n : Nat} {s : St} {k : St → DT α} {a : Act} {w : World}
    (h : SatN X fid n (regionD X.cfg (X.cfg.plan fid id) ops.toList draw s k) Q) (hg : Good Φg Φ₀ i₀ w₀ N s a w) : (Code.region id ops draw).wp P (PostR Φg X fid n k Q Φ₀ i₀ w₀ N) a w := by
  obtain ⟨hd, hp⟩ := hc
  obtain ⟨T, H⟩ := s
  unfold regionD at h
  dsimp only at h
  cases draw with
  | false =>
    obtain ⟨Φ, m, hT, hI, hG, hN, hD⟩ := hg
    refine wp_region_list ?_
    have := ops_ok hX ops.toList hd h hT hI hG hN hD
    simpa using this
  | true =>
    obtain ⟨hs, hp⟩ := hp rfl
    obtain ⟨Φ, m, hT, hI, hG, hN, hD⟩ := hg.drawn (w.drawn + 1)
    refine wp_region_plan hX.mixed hs (fun c a w h => h) hp ?_
    exact plan_ok hX hd _ h hT hI hG hN hD (fun p hp => by cases hp)

theorem exists_least (p : Nat → Prop) (h : ∃ n, p n) : ∃ n, p n ∧ ∀ m, p m → n ≤ m := by
  obtain ⟨n, hn⟩ := h
  induction n using Nat.strongRecOn with
  | _ n ih =>
    by_cases hx : ∃ m, m < n ∧ p m
    · obtain ⟨m, hm, hpm⟩ := hx
      exact ih m hm hpm
    · exact ⟨n, hn, fun m hm => Nat.le_of_not_lt fun hlt => hx ⟨m, hlt, hm⟩⟩
noncomputable def leastN (p : Nat → Prop) (h : ∃ n, p n) : Nat := Classical.choose (exists_least p h)
theorem leastN_spec {p : Nat → Prop} (h : ∃ n, p n) : p (leastN p h) := (Classical.choose_spec (exists_least p h)).1
theorem leastN_min {p : Nat → Prop} (h : ∃ n, p n) {m : Nat} (hm : p m) : leastN p h ≤ m := (Classical.choose_spec (exists_least p h)).2 m hm

open Classical in
theorem exec_ok (hX : CtxOk P Φg X) : ∀ (c : Code), CodeOk X.cfg fid N c → ∀ {n : Nat} {s : St} {k : Ex → St → DT α} {a : Act} {w : World}, SatN X fid n (execD X.cfg fid c s k) Q → Good Φg Φ₀ i₀ w₀ N s a w →
    c.wp P (Post Φg X fid n k Q Φ₀ i₀ w₀ N) a w
  | .skip, _, n, s, k, a, w, h, hg => wp_skip ⟨.normal, s, n, rfl, Nat.le_refl _, h, hg⟩
  | .label _, _, n, s, k, a, w, h, hg => wp_label ⟨.normal, s, n, rfl, Nat.le_refl _, h, hg⟩
  | .region id ops draw, hc, n, s, k, a, w, h, hg => by
    refine wp_mono (region_ok hX hc (k := k .normal) h hg) fun e a' w' hq => ?_
    cases e with
    | normal => obtain ⟨s', h1, h2⟩ := hq; exact ⟨.normal, s', n, rfl, Nat.le_refl _, h1, h2⟩
    | _ => exact hq.elim
  | .seq x y, hc, n, s, k, a, w, h, hg => by
    refine wp_seq (wp_mono (exec_ok hX x hc.1 h hg) fun e a' w' hq => ?_)
    obtain ⟨ex, s', j, he, hj, hs, hg'⟩ := hq
    cases e <;> simp only [exOf] at he <;> cases he
    · refine wp_mono (exec_ok hX y hc.2 hs hg') fun e a w hq => ?_
      obtain ⟨ex, s', j', he, hj', hs, hg'⟩ := hq
      exact ⟨ex, s', j', he, Nat.le_trans hj' hj, hs, hg'⟩
    · exact ⟨_, s', j, rfl, hj, hs, hg'⟩
    · exact ⟨_, s', j, rfl, hj, hs, hg'⟩
  | .cond c x y, hc, n, s, k, a, w, h, hg => by
    unfold execD at h
    split at h
    · rename_i b hb
      have hev : a.eval c = .bool b := by
        obtain ⟨Φ, m, hT, _⟩ := hg
        have := opnd_eval hT hb
        generalize a.eval c = e at this
        cases this; rfl
      cases h with
      | nodeT hb' h => subst hb'; exact wp_cond_true hev (exec_ok hX x hc.1 h hg)
      | nodeF hb' h => subst hb'; exact wp_cond_false hev (exec_ok hX y hc.2 h hg)
    · exact h.no_fail.elim
  | .block id x, hc, n, s, k, a, w, h, hg => by
    refine wp_block (wp_mono (exec_ok hX x hc h hg) fun e a' w' hq => ?_)
    obtain ⟨ex, s', j, he, hj, hs, hg'⟩ := hq
    cases e <;> simp only [exOf] at he <;> cases he
    · exact ⟨_, s', j, rfl, hj, hs, hg'⟩
    · rename_i id'
      dsimp only at hs
      by_cases hid : id' = id
      · subst hid
        have : Nat.beq id' id' = true := by simp
        rw [this] at hs
        simp only [Exit.inBlock, if_true]
        exact ⟨_, s', j, rfl, hj, hs, hg'⟩
      · have : Nat.beq id' id = false := by cases hb : Nat.beq id' id with | false => rfl | true => exact absurd (by simpa using hb) hid
        rw [this] at hs
        simp only [Exit.inBlock, hid, if_false]
        exact ⟨_, s', j, rfl, hj, hs, hg'⟩
    · exact ⟨_, s', j, rfl, hj, hs, hg'⟩
  | .loop x, hc, n, s, k, a, w, h, hg => by
    unfold execD at h
    split at h
    · rename_i s1 hs1
      rw [frcSt_eq] at h
      have hg1 : Good Φg Φ₀ i₀ w₀ N s1 a w := by
        obtain ⟨Φ, m, hT, hI, hG, hN, hD⟩ := hg
        obtain ⟨Φ', m', h1, h2, h3⟩ := head_ok hs1 hT hI hG
        exact ⟨Φ', m', h1, h2, h3, hN, hD⟩
      generalize hlive : X.cfg.live fid (firstRegion x) = live at h hs1
      let I : Act → World → Prop := fun a w => ∃ j, j ≤ n ∧ ∃ s, SatN X fid j (.loop x live s k) Q ∧ Good Φg Φ₀ i₀ w₀ N s a w
      let J : Act → World → Nat → Prop := fun a w j => j ≤ n ∧ ∃ s, SatN X fid j (.loop x live s k) Q ∧ Good Φg Φ₀ i₀ w₀ N s a w
      let μ : Act → World → Nat := fun a w => if hh : ∃ j, J a w j then leastN _ hh else 0
      refine wp_loop I μ ⟨n, Nat.le_refl _, s1, h, hg1⟩ fun a w hI => ?_
      have hex : ∃ j, J a w j := hI
      have hmu : μ a w = leastN _ hex := dif_pos hex
      obtain ⟨hjn, s2, hs2, hg2⟩ := leastN_spec hex
      rw [← hmu] at hjn hs2
      generalize hj0 : μ a w = j0 at hjn hs2
      cases hs2 with
      | loop hs2 =>
        rename_i j1
        refine wp_mono (exec_ok hX x hc hs2 hg2) fun e a' w' hq => ?_
        obtain ⟨ex, s', j, he, hj, hs, hg'⟩ := hq
        cases e <;> simp only [exOf] at he <;> cases he
        · -- on
          unfold againD at hs
          dsimp only at hs
          split at hs
          · rename_i s3 hs3
            rw [frcSt_eq] at hs
            have hg3 : Good Φg Φ₀ i₀ w₀ N s3 a' w' := by
              obtain ⟨Φ, m, hT, hI, hG, hN, hD⟩ := hg'
              obtain ⟨Φ', m', h1, h2, h3⟩ := head_ok hs3 hT hI hG
              exact ⟨Φ', m', h1, h2, h3, hN, hD⟩
            have hJ : J a' w' j := ⟨by omega, s3, hs, hg3⟩
            refine ⟨⟨j, by omega, s3, hs, hg3⟩, ?_⟩
            have hex' : ∃ j, J a' w' j := ⟨j, hJ⟩
            have : μ a' w' = leastN _ hex' := dif_pos hex'
            rw [this]
            have := leastN_min hex' hJ
            omega
          · exact hs.no_fail.elim
        · exact ⟨_, s', j, rfl, by omega, hs, hg'⟩
        · exact ⟨_, s', j, rfl, by omega, hs, hg'⟩
    · exact h.no_fail.elim
  | .exit id, _, n, s, k, a, w, h, hg => wp_exit ⟨.exit id, s, n, rfl, Nat.le_refl _, h, hg⟩
  | .ret, _, n, s, k, a, w, h, hg => wp_ret ⟨.ret, s, n, rfl, Nat.le_refl _, h, hg⟩
  | .scope _, _, n, s, k, a, w, h, hg => by simp only [execD] at h; exact h.no_fail.elim
  | .rangeFunc .., _, n, s, k, a, w, h, hg => by simp only [execD] at h; exact h.no_fail.elim
  | .goto _, _, n, s, k, a, w, h, hg => by simp only [execD] at h; exact h.no_fail.elim
end
end Go.Ab
