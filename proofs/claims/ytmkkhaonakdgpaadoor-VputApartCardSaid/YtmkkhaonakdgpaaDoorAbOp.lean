/- Each operation. -/
import Derived.Test.YtmkkhaonakdgpaaDoorAbApp
namespace Go.Ab
open Go
section
variable {Φg : Phi} {α : Type} {X : Ctx} {fid : FuncId} {P : Program} {n : Nat} {draw : Bool} {s : St} {o : Oper} {k : Script → DT α} {Q : α → Prop} {a : Act} {w w₀ : World}
  {Φ Φ₀ : Phi} {m i₀ : LMap} {Qx : Exit → Act → World → Prop}
theorem op_builtin (hX : CtxOk P Φg X) {c : Call} {b : Builtin} (hop : o.op = .call c) (hc : c.callee = .builtin b) (h : SatN X fid n (opR X.cfg draw s o k) Q) (hT : RT Φ m s.T a.tmps)
    (hI : Inv Φ m w s.H) (hG : Glob Φg Φ₀ i₀ w₀ Φ m w) : o.wp P a w (After P Φg X fid n k Q Φ₀ i₀ w₀ o s a w Φ m) Qx := by
  have other : (b ≠ .len ∧ b ≠ .append ∧ b ≠ .min ∧ b ≠ .max) → False := fun hb => by
    unfold opR at h
    rw [hop] at h
    dsimp only at h
    split at h
    · exact h.no_fail
    · rw [hc] at h
      dsimp only at h
      unfold builtinD at h
      split at h
      · exact hb.1 rfl
      · exact hb.2.1 rfl
      · exact hb.2.2.1 rfl
      · exact hb.2.2.2 rfl
      · exact h.no_fail
  cases b <;> first
    | exact op_len hX.tab rfl hop hc h hT hI hG
    | exact op_append hX.tab rfl hop hc h hT hI hG
    | exact op_minmax hop hc (.inl rfl) h hT hI hG
    | exact op_minmax hop hc (.inr rfl) h hT hI hG
    | exact (other (by simp)).elim
/-- **Each operation of the runner is what the machine does.** -/
theorem op_sound (hX : CtxOk P Φg X) (h : SatN X fid n (opR X.cfg draw s o k) Q) (hT : RT Φ m s.T a.tmps)
    (hI : Inv Φ m w s.H) (hG : Glob Φg Φ₀ i₀ w₀ Φ m w) : o.wp P a w (After P Φg X fid n k Q Φ₀ i₀ w₀ o s a w Φ m) Qx := by
  have hP := hX.tab
  cases hop : o.op
  case move x => exact op_move hop h hT hI hG
  case assign x => exact op_assign hop h hT hI hG
  case pick c x y => exact op_pick hop h hT hI hG
  case alloc t => exact op_alloc hP rfl hop h hI hG
  case box t x => exact op_box hop h hT hI hG
  case build t ps => exact op_build hP rfl hop h hT hI hG
  case buildSlice t l ps => exact op_buildSlice hP rfl hop h hT hI hG
  case load t x => exact op_load hX.glob hP rfl hop h hT hI hG
  case store t x y => exact op_store hP rfl hop h hT hI hG
  case nilCheck x => exact op_nilCheck hop h hT hI hG
  case binOp op t x y t' => exact op_binOp hP rfl hop h hT hI hG
  case unOp op t x => exact op_unOp hop h hT hI hG
  case convert sr d x => exact op_convert hP rfl hop h hT hI hG
  case makeInterface t x => exact op_makeInterface hP rfl hop h hT hI hG
  case makeFunc fn as cs =>
    cases fn
    case func f => exact op_makeFunc hop h hT hI hG
    all_goals (unfold opR at h; rw [hop] at h; exact h.no_fail.elim)
  case makeSlice t l c => exact op_makeSlice hP rfl hop h hT hI hG
  case slice t x lo hi mx => exact op_slice hP rfl hop h hT hI hG
  case fieldAddr t x f => exact op_fieldAddr hP rfl hop h hT hI hG
  case field t x f => exact op_field hP rfl hop h hT hI hG
  case indexAddr t x i => exact op_indexAddr hP rfl hop h hT hI hG
  case index t x i => exact op_index hP rfl hop h hT hI hG
  case typeAssert x xt u ok => exact op_typeAssert hX hop h hT hI hG
  case extract x i => exact op_extract hop h hT hI hG
  case call c =>
    cases hc : c.callee
    case value fx => exact op_callV hX hop hc h hT hI hG
    case invoke rx nm => exact op_invoke hX hop hc h hT hI hG
    case builtin b => exact op_builtin hX hop hc h hT hI hG
  all_goals (unfold opR at h; rw [hop] at h; exact h.no_fail.elim)
end
end Go.Ab
