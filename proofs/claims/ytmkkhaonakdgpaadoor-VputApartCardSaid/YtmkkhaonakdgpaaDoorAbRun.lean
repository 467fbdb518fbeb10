/- Regions, and code, as the runner says. -/
import Derived.Test.YtmkkhaonakdgpaaDoorAbOp
import Derived.Test.YtmkkhaonakdgpaaDoorAbDraw
namespace Go.Ab
open Go
section
variable {Φg : Phi} {α : Type} {X : Ctx} {fid : FuncId} {P : Program} {n N : Nat} {draw : Bool} {s : St} {o : Oper} {Q : α → Prop} {a : Act} {w w₀ : World}
  {Φ Φ₀ : Phi} {m i₀ : LMap} {Qx : Exit → Act → World → Prop}

theorem putTK_eq {β : Type} (dst : Option Nat) (v : AV) (T : Temps) (k : Temps → β) : putTK dst v T k = k (putT dst v T) := by cases dst <;> rfl
theorem tmps_put (a : Act) (dst : Option Tmp) (v : Value) : (a.put dst v).tmps.size = a.tmps.size := by cases dst <;> simp [Act.put]
theorem defers_put (a : Act) (dst : Option Tmp) (v : Value) : (a.put dst v).defers = a.defers := by cases dst <;> rfl
theorem RT.put {T : Temps} {dst : Option Nat} {v : AV} {x : Value} (hT : RT Φ m T a.tmps) (hr : R Φ m v x) (hd : ∀ d, dst = some d → d < a.tmps.size) : RT Φ m (putT dst v T) (a.put dst x).tmps := by
  cases dst with
  | none => exact hT
  | some d =>
    have hd := hd d rfl
    intro t u ht
    simp only [putT, tget] at ht
    cases hb : Nat.beq d t with
    | true =>
      rw [hb] at ht
      cases ht
      rw [Nat.beq_eq] at hb
      subst hb
      exact ⟨x, by simp [Act.put, hd], hr⟩
    | false =>
      rw [hb] at ht
      obtain ⟨y, hy, hyr⟩ := hT t u ht
      have hne : d ≠ t := fun e => by rw [e] at hb; simp at hb
      exact ⟨y, by simp only [Act.put]; rw [Array.getElem?_setIfInBounds_ne hne]; exact hy, hyr⟩
theorem RT.mono {T : Temps} {tmps : Array Value} {Φ' : Phi} {m' : LMap} (hT : RT Φ m T tmps) (he : Ext Φ m Φ' m') : RT Φ' m' T tmps := fun t v h => by
  obtain ⟨x, hx, hr⟩ := hT t v h
  exact ⟨x, hx, hr.mono he⟩

/-- What a guard's operation has yielded. -/
theorem yieldA_ok {all : List Oper} {g : Nat} {r : Option Bool} (hT : RT Φ m s.T a.tmps) (h : yieldA all s g = some r) : yielded all.toArray a.tmps g = r := by
  unfold yieldA at h
  unfold yielded
  simp only [List.getElem?_toArray]
  split at h
  · rename_i o' ho
    rw [ho]
    simp only [Option.bind_some]
    split at h
    · rename_i d hd
      rw [hd]
      simp only [Option.bind_some]
      split at h
      · rename_i b hb
        obtain ⟨x, hx, hr⟩ := hT _ _ hb
        cases hr
        cases h
        rw [hx]
      · cases h
      · cases h
      · rename_i v h1 h2 h3 hv
        obtain ⟨x, hx, hr⟩ := hT _ _ hv
        cases h
        rw [hx]
        cases hr <;> simp_all
      · cases h
    · rename_i hd
      cases h
      rw [hd]; rfl
  · rename_i ho
    cases h
    rw [ho]; rfl

/-- Behind one operation. -/
def Stepped (P : Program) (Φg : Phi) (X : Ctx) (fid : FuncId) (n : Nat) (k : Temps → Heap → Acc → DT α) (Q : α → Prop) (Φ₀ : Phi) (i₀ : LMap) (w₀ : World) (o : Oper) (T : Temps) (H : Heap) (q : List Fx → Bool) (a : Act) (w : World) (Φ : Phi) (m : LMap) : Act → World → Prop :=
  fun a' w' => ∃ Φ' m' sc x, SatN X fid n (k (putT o.dst sc.v T) (fxApp H sc.fx) sc.rd) Q ∧ q sc.fx = true ∧ R Φ' m' sc.v x ∧ a' = a.put o.dst x ∧ Ext Φ m Φ' m' ∧ Inv Φ' m' w' (fxApp H sc.fx) ∧ Glob Φg Φ₀ i₀ w₀ Φ' m' w' ∧
    Stays m sc.fx w w' ∧ Silent P o a Φ m sc w w' x

theorem step_ok (hX : CtxOk P Φg X) {all : List Oper} {T : Temps} {H : Heap} {q : List Fx → Bool} {k : Temps → Heap → Acc → DT α} (h : SatN X fid n (stepD X.cfg draw all o T H q k) Q) (hT : RT Φ m T a.tmps)
    (hI : Inv Φ m w H) (hG : Glob Φg Φ₀ i₀ w₀ Φ m w) :
    (Region.wanted o (yielded all.toArray a.tmps) = true ∧ ∀ Qx, o.wp P a w (Stepped P Φg X fid n k Q Φ₀ i₀ w₀ o T H q a w Φ m) Qx) ∨
    (Region.wanted o (yielded all.toArray a.tmps) = false ∧ SatN X fid n (k (putT o.dst (.tuple []) T) H []) Q) := by
  have go : SatN X fid n (opR X.cfg draw ⟨T, H⟩ o fun sc => match sc with | ⟨v, fx, rd⟩ => bif q fx then fxAppK H fx fun H => putTK o.dst v T fun T => k T H rd else .fail 161) Q →
      ∀ Qx, o.wp P a w (Stepped P Φg X fid n k Q Φ₀ i₀ w₀ o T H q a w Φ m) Qx := fun h Qx => by
    refine Oper.wp_mono (fun a' w' hk => ?_) (op_sound (s := ⟨T, H⟩) hX h hT hI hG)
    obtain ⟨Φ', m', ⟨v, fx, rd⟩, x, hs, hr, ha, he, hI', hG', hst, hsi⟩ := hk
    dsimp only at hs
    cases hq : q fx with
    | false => rw [hq] at hs; exact hs.no_fail.elim
    | true =>
      rw [hq] at hs
      simp only [cond_true, fxAppK_eq, putTK_eq] at hs
      exact ⟨Φ', m', ⟨v, fx, rd⟩, x, hs, hq, hr, ha, he, hI', hG', hst, hsi⟩
  unfold stepD at h
  dsimp only at h
  split at h
  · rename_i hg
    exact .inl ⟨by simp [Region.wanted, hg], go h⟩
  · rename_i g want hg
    split at h
    · rename_i b hb
      have hy := yieldA_ok (s := ⟨T, H⟩) hT hb
      cases want with
      | true =>
        simp only [cond_true] at h
        cases h with
        | nodeT hc h => exact .inl ⟨by simp [Region.wanted, hg, hy, hc], go h⟩
        | nodeF hc h => rw [putTK_eq] at h; exact .inr ⟨by simp [Region.wanted, hg, hy, hc], h⟩
      | false =>
        simp only [cond_false] at h
        cases h with
        | nodeT hc h => rw [putTK_eq] at h; exact .inr ⟨by simp [Region.wanted, hg, hy, hc], h⟩
        | nodeF hc h => exact .inl ⟨by simp [Region.wanted, hg, hy, hc], go h⟩
    · rename_i hb
      have hy := yieldA_ok (s := ⟨T, H⟩) hT hb
      rw [putTK_eq] at h
      exact .inr ⟨by simp [Region.wanted, hg, hy], h⟩
    · exact h.no_fail.elim

/-- The frame and the world are as the runner's state says. -/
def Good (Φg Φ₀ : Phi) (i₀ : LMap) (w₀ : World) (N : Nat) (s : St) (a : Act) (w : World) : Prop :=
  ∃ Φ m, RT Φ m s.T a.tmps ∧ Inv Φ m w s.H ∧ Glob Φg Φ₀ i₀ w₀ Φ m w ∧ a.tmps.size = N ∧ a.defers = []

def exOf : Exit → Option Ex
  | .normal => some .normal
  | .exit id => some (.exit id)
  | .ret => some .ret
  | _ => none
/-- Behind code. -/
def Post (Φg : Phi) (X : Ctx) (fid : FuncId) (n : Nat) (k : Ex → St → DT α) (Q : α → Prop) (Φ₀ : Phi) (i₀ : LMap) (w₀ : World) (N : Nat) : Exit → Act → World → Prop :=
  fun e a w => ∃ ex s j, exOf e = some ex ∧ j ≤ n ∧ SatN X fid j (k ex s) Q ∧ Good Φg Φ₀ i₀ w₀ N s a w
/-- Behind a region. -/
def PostR (Φg : Phi) (X : Ctx) (fid : FuncId) (n : Nat) (k : St → DT α) (Q : α → Prop) (Φ₀ : Phi) (i₀ : LMap) (w₀ : World) (N : Nat) : Exit → Act → World → Prop
  | .normal, a, w => ∃ s, SatN X fid n (k s) Q ∧ Good Φg Φ₀ i₀ w₀ N s a w
  | _, _, _ => False

def DstOk (N : Nat) (os : List Oper) : Prop := ∀ o ∈ os, ∀ d, o.dst = some d → d < N

theorem undef_r : R Φ m (.tuple []) undef := R.tuples (by simpa [undef] using Rs.nil)

theorem ops_ok (hX : CtxOk P Φg X) {all : List Oper} {k : St → DT α} : ∀ (os : List Oper), DstOk N os → ∀ {T : Temps} {H : Heap} {a : Act} {w : World} {Φ : Phi} {m : LMap}, SatN X fid n (opsD X.cfg all os T H k) Q → RT Φ m T a.tmps → Inv Φ m w H →
    Glob Φg Φ₀ i₀ w₀ Φ m w → a.tmps.size = N → a.defers = [] → wpList P all.toArray (PostR Φg X fid n k Q Φ₀ i₀ w₀ N) os a w
  | [], _, T, H, a, w, Φ, m, h, hT, hI, hG, hN, hD => ⟨⟨T, H⟩, h, Φ, m, hT, hI, hG, hN, hD⟩
  | o :: os, hd, T, H, a, w, Φ, m, h, hT, hI, hG, hN, hD => by
    have hdo : ∀ d, o.dst = some d → d < a.tmps.size := fun d e => hN ▸ hd o (List.mem_cons_self ..) d e
    unfold opsD at h
    unfold wpList
    rcases step_ok hX h hT hI hG with ⟨hw, h⟩ | ⟨hw, h⟩
    · rw [if_pos hw]
      refine .inl (Oper.wp_mono (fun a' w' hk => ?_) (h _))
      obtain ⟨Φ', m', sc, x, hs, _, hr, rfl, he, hI', hG', _, _⟩ := hk
      exact ops_ok hX os (fun o ho => hd o (List.mem_cons_of_mem _ ho)) hs ((hT.mono he).put hr hdo) hI' hG' (by rw [tmps_put]; exact hN) (by rw [defers_put]; exact hD)
    · rw [if_neg (by rw [hw]; exact Bool.false_ne_true)]
      exact ops_ok hX os (fun o ho => hd o (List.mem_cons_of_mem _ ho)) h (hT.put undef_r hdo) hI hG (by rw [tmps_put]; exact hN) (by rw [defers_put]; exact hD)

/-! ### Regions that draw -/
theorem ahead_anc {ops : Array Oper} : ∀ {f k j : Nat}, ahead ops.toList f k j = true → Anc ops k j
  | 0, _, _, h => by cases h
  | f + 1, k, j, h => by
    unfold ahead at h
    split at h
    · rename_i o ho
      have ho' : ops[j]? = some o := by simpa using ho
      simp only [Bool.or_eq_true, List.any_eq_true, Bool.and_eq_true] at h
      rcases h with ⟨e, he, hb, hk⟩ | ⟨e, he, hb, hk⟩
      · exact .one ⟨o, e, ho', by simpa using he, hb, by simpa using hk⟩
      · exact .step (ahead_anc hk) ⟨o, e, ho', by simpa using he, hb, rfl⟩
    · cases h
theorem memS_iff {s : Site} : ∀ {l : List Site}, memS s l = true ↔ s ∈ l
  | [] => by simp [memS]
  | a :: r => by
    simp only [memS, Bool.or_eq_true, List.mem_cons, memS_iff, Site.eq_iff]
    exact ⟨fun h => h.imp Eq.symm id, fun h => h.imp Eq.symm id⟩
theorem isLive_ok {H : Heap} {s : Site} (h : isLive H s = true) : ∃ B, hget H s = some B ∧ B.live := by
  unfold isLive at h
  split at h
  · cases h
  · rename_i B hne hg
    exact ⟨B, hg, by cases B <;> first | trivial | exact absurd hg (by simpa using hne)⟩
  · cases h
theorem hitsLive_ok {H : Heap} : ∀ {l : List Site}, hitsLive H l = true → ∀ s ∈ l, isLive H s = true
  | [], _, s, hs => by cases hs
  | a :: r, h, s, hs => by
    simp only [hitsLive, Bool.and_eq_true] at h
    rcases List.mem_cons.1 hs with rfl | hs
    · exact h.1
    · exact hitsLive_ok h.2 s hs
theorem sitesOk_ok {ops : List Oper} {k j : Nat} {H : Heap} {fx : List Fx} : ∀ {l : List Site}, sitesOk ops k j H fx l = true → ∀ s ∈ l, isLive H s = true ∧ (s ∉ fxHit fx ∨ ahead ops 3 k j = true)
  | [], _, s, hs => by cases hs
  | a :: r, h, s, hs => by
    simp only [sitesOk, Bool.and_eq_true, Bool.or_eq_true, Bool.not_eq_true'] at h
    rcases List.mem_cons.1 hs with rfl | hs
    · refine ⟨h.1.1.1, h.1.2.imp (fun hm hc => ?_) id⟩
      rw [memS_iff.2 hc] at hm; cases hm
    · exact sitesOk_ok h.2 s hs
theorem pendOk_ok {ops : List Oper} {j : Nat} {H : Heap} {fx : List Fx} : ∀ {l : Pend}, pendOk ops j H fx l = true → ∀ p ∈ l, sitesOk ops p.1 j H fx p.2 = true
  | [], _, s, hs => by cases hs
  | (a, b) :: r, h, s, hs => by
    simp only [pendOk, Bool.and_eq_true] at h
    rcases List.mem_cons.1 hs with rfl | hs
    · exact h.1
    · exact pendOk_ok h.2 s hs
theorem accSites_mem : ∀ {rd : Acc} {s : Site} {r : Option (Nat × Nat)}, (s, r) ∈ rd → s ∈ accSites rd
  | [], _, _, h => by cases h
  | (a, b) :: l, s, r, h => by
    rcases List.mem_cons.1 h with e | h
    · cases e; exact List.mem_cons_self ..
    · exact List.mem_cons_of_mem _ (accSites_mem h)

/-- What was read, as the runner has noted it. -/
def PW (Φ : Phi) (m : LMap) (pend : Pend) (pw : Pends) : Prop := ∀ p ∈ pw, ∃ Φ1 m1 rd w1, (∀ w', p.2 w' ↔ KeepOn Φ1 m1 rd w1 w') ∧ Ext Φ1 m1 Φ m ∧ (rd = [] ∨ (p.1, accSites rd) ∈ pend)
theorem PW.mono {pend : Pend} {pw : Pends} {Φ' : Phi} {m' : LMap} (h : PW Φ m pend pw) (he : Ext Φ m Φ' m') : PW Φ' m' pend pw := fun p hp => by
  obtain ⟨Φ1, m1, rd, w1, h1, h2, h3⟩ := h p hp
  exact ⟨Φ1, m1, rd, w1, h1, h2.trans he, h3⟩

theorem plan_ok (hX : CtxOk P Φg X) {ops : Array Oper} {k : St → DT α} (hd : DstOk N ops.toList) : ∀ (p : Plan) {T : Temps} {H : Heap} {pend : Pend} {pw : Pends} {a : Act} {w : World} {Φ : Phi} {m : LMap}, SatN X fid n (planD X.cfg ops.toList p T H pend k) Q → RT Φ m T a.tmps →
    Inv Φ m w H → Glob Φg Φ₀ i₀ w₀ Φ m w → a.tmps.size = N → a.defers = [] → PW Φ m pend pw → planWp P ops (PostR Φg X fid n k Q Φ₀ i₀ w₀ N) p pw a w
  | .stop, T, H, pend, pw, a, w, Φ, m, h, hT, hI, hG, hN, hD, hW => ⟨⟨T, H⟩, h, Φ, m, hT, hI, hG, hN, hD⟩
  | .sil i r, T, H, pend, pw, a, w, Φ, m, h, hT, hI, hG, hN, hD, hW => by
    unfold planD at h
    split at h
    · rename_i o ho
      have ho' : ops[i]? = some o := by simpa using ho
      have hdo : ∀ d, o.dst = some d → d < a.tmps.size := fun d e => hN ▸ hd o (List.mem_of_getElem? ho) d e
      rcases step_ok hX h hT hI hG with ⟨hw, h⟩ | ⟨hw, h⟩
      · -- carried out
        have h := h (fun _ _ _ => False)
        unfold Oper.wp at h
        generalize hrun : (execOp a.eval o).run P w = rr at h
        have fin : ∀ a' w', Stepped P Φg X fid n (fun T H rd => planD X.cfg ops.toList r T H (match rd with | [] => pend | rd => (i, accSites rd) :: pend) k) Q Φ₀ i₀ w₀ o T H isNil a w Φ m a' w' → ∃ oi v S, ops[i]? = some oi ∧ YieldsAt P ops S oi v a ∧ S w ∧ planWp P ops (PostR Φg X fid n k Q Φ₀ i₀ w₀ N) r ((i, S) :: pw) (a.put oi.dst v) w := by
          intro a' w' hk
          obtain ⟨Φ', m', sc, x, hs, hq, hr, rfl, he, hI', hG', hst, hsi⟩ := hk
          have hfx : sc.fx = [] := by cases hf : sc.fx with | nil => rfl | cons c l => rw [hf] at hq; cases hq
          obtain ⟨rfl, hsi⟩ := hsi hfx
          rw [hfx] at hs hI'
          refine ⟨o, x, KeepOn Φ m sc.rd w', ho', .inl ⟨by simpa using hw, hsi⟩, KeepOn.refl hI, ?_⟩
          refine plan_ok hX hd r hs ((hT.mono he).put hr hdo) hI' hG' (by rw [tmps_put]; exact hN) (by rw [defers_put]; exact hD) ?_
          intro p hp
          rcases List.mem_cons.1 hp with rfl | hp
          · refine ⟨Φ, m, sc.rd, w', fun _ => Iff.rfl, he, ?_⟩
            cases hrd : sc.rd with
            | nil => exact .inl rfl
            | cons c l => exact .inr (List.mem_cons_self ..)
          · obtain ⟨Φ1, m1, rd, w1, h1, h2, h3⟩ := hW p hp
            refine ⟨Φ1, m1, rd, w1, h1, h2.trans he, h3.imp id fun h3 => ?_⟩
            split
            · exact h3
            · exact List.mem_cons_of_mem _ h3
        cases rr with
        | ok nx w' =>
          cases nx <;> simp only [Oper.upon] at h
          case value v => exact fin _ _ h
          case skip => exact fin _ _ h
          case defer d =>
            exfalso
            obtain ⟨Φ', m', sc, x, hs, hq, hr, ha, _⟩ := h
            have := congrArg Act.defers ha
            rw [defers_put, defers_put] at this
            simp at this
          case enter f args =>
            obtain ⟨e, w', fr, hR, _⟩ := h []
            cases e with
            | returned v => exact fin _ _ hR
            | panicked c => exact hR.elim
            | outgrown => obtain ⟨_, _, hf⟩ := hR; exact hf.elim
          case row row args =>
            obtain ⟨v, w', hR, _⟩ := h default []
            exact fin _ _ hR
        | halt x w' => cases x <;> simp only [Oper.upon] at h
      · refine ⟨o, undef, KeepOn Φ m [] w, ho', .inr ⟨by simpa using hw, rfl⟩, KeepOn.refl hI, ?_⟩
        refine plan_ok hX hd r h (hT.put undef_r hdo) hI hG (by rw [tmps_put]; exact hN) (by rw [defers_put]; exact hD) ?_
        intro p hp
        rcases List.mem_cons.1 hp with rfl | hp
        · exact ⟨Φ, m, [], w, fun _ => Iff.rfl, Ext.refl _ _, .inl rfl⟩
        · exact hW p hp
    · exact h.no_fail.elim
  | .eff i r, T, H, pend, pw, a, w, Φ, m, h, hT, hI, hG, hN, hD, hW => by
    unfold planD at h
    split at h
    · rename_i o ho
      have ho' : ops[i]? = some o := by simpa using ho
      have hdo : ∀ d, o.dst = some d → d < a.tmps.size := fun d e => hN ▸ hd o (List.mem_of_getElem? ho) d e
      unfold planWp wpOp
      simp only [ho']
      rcases step_ok hX h hT hI hG with ⟨hw, h⟩ | ⟨hw, h⟩
      · rw [if_pos (by simpa using hw)]
        refine .inl (Oper.wp_mono (fun a' w' hk => ?_) (h _))
        obtain ⟨Φ', m', sc, x, hs, hq, hr, rfl, he, hI', hG', hst, hsi⟩ := hk
        simp only [Bool.and_eq_true] at hq
        refine ⟨fun p hp hn hS => ?_, plan_ok hX hd r hs ((hT.mono he).put hr hdo) hI' hG' (by rw [tmps_put]; exact hN) (by rw [defers_put]; exact hD) (hW.mono he)⟩
        obtain ⟨Φ1, m1, rd, w1, h1, h2, h3⟩ := hW p hp
        rw [h1] at hS ⊢
        refine ⟨fun b oo y hy => hI'.phi _ _ _ (he.phi _ _ _ (h2.phi _ _ _ hy)), fun s' r' hs' b e z hm oo => ?_⟩
        rw [← hS.2 s' r' hs' b e z hm oo]
        have hm' := h2.map _ _ _ _ hm
        rcases h3 with h3 | h3
        · rw [h3] at hs'; cases hs'
        · obtain ⟨hl, hh⟩ := sitesOk_ok (pendOk_ok hq.2 _ h3) s' (accSites_mem hs')
          have hnh : s' ∉ fxHit sc.fx := hh.resolve_right fun ha => hn (ahead_anc ha)
          obtain ⟨B, hB, hBl⟩ := isLive_ok hl
          have := hst b (hI.lt _ _ _ _ hm') fun s2 hs2 e2 z2 hm2 => by
            obtain ⟨B2, hB2, hB2l⟩ := isLive_ok (hitsLive_ok hq.1 s2 hs2)
            have := hI.inj _ _ _ _ _ _ _ _ _ hB hB2 hBl hB2l hm' hm2
            subst this
            exact hnh hs2
          simp only [World.cell?, this]
      · rw [if_neg (by rw [show Region.wanted o (yielded ops a.tmps) = false by simpa using hw]; exact Bool.false_ne_true)]
        exact ⟨fun p hp hn hS => hS, plan_ok hX hd r h (hT.put undef_r hdo) hI hG (by rw [tmps_put]; exact hN) (by rw [defers_put]; exact hD) hW⟩
    · exact h.no_fail.elim
  | .alt p q, T, H, pend, pw, a, w, Φ, m, h, hT, hI, hG, hN, hD, hW => by
    unfold planD at h
    cases h with
    | amb h1 h2 => exact ⟨plan_ok hX hd p h1 hT hI hG hN hD hW, plan_ok hX hd q h2 hT hI hG hN hD hW⟩
end
end Go.Ab
