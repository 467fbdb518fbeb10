/- From a function's law to the statement: what a call hands back, and that what was there stays. -/
import Derived.Test.YtmkkhaonakdgpaaDoorAbPlan
import Derived.ProofKit
import Derived.WalkKit
namespace Go.Ab
open Go

/-- What was there stays. -/
structure Kept (w w' : World) : Prop where
  same : ∀ b, b < w.heap.size → w'.heap[b]? = w.heap[b]?
  size : w.heap.size ≤ w'.heap.size
  os : w'.os = w.os
  out : w'.output = w.output
theorem Kept.but {w w' : World} (h : Kept w w') (may : MemPlace → Prop) : w.keptBut w' may := by
  refine ⟨h.os, h.out, fun i hi => ?_⟩
  rw [h.same i hi]
  cases hw : w.heap[i]? with
  | none => simp
  | some o =>
    cases o <;> simp

theorem callFunc_enter {P : Program} {f : FuncId} {fn : Func} {xs : Array Value} {w : World} (hf : P.funcs[f]? = some fn) (hb : fn.body.isSome = true) (hne : (fn.name == "runtime.NumGoroutine") = false) :
    (callFunc f xs).run P w = .ok (.enter f xs) w := by
  obtain ⟨c, hc⟩ := Option.isSome_iff_exists.1 hb
  simp only [callFunc, Sem.run_bind, run_program, Result.andThen_ok, hf, hne, hc, Option.isNone_some, Bool.false_eq_true, if_false, Sem.run_pure]

/-- A law: handed values that lie, it says true. -/
theorem law_calls {P : Program} {Φg : Phi} {f : FuncId} {fn : Func} {args : List AV} {xs : Array Value} {Φ : Phi} {w : World} (hf : P.funcs[f]? = some fn) (hb : fn.body.isSome = true) (hne : (fn.name == "runtime.NumGoroutine") = false)
    (h : SoundCall P Φg f args [] ⟨.bool true, [], []⟩) (hr : Rs Φ m0 args xs.toList) (hbase : ∀ b o x, Φg b o = some x → Φ b o = some x) (hphi : ∀ b o x, Φ b o = some x → w.cell? ⟨b, o, none⟩ = some x) :
    Calls P f xs w fun e w' => e = .returned (.bool true) ∧ Kept w w' := by
  have := h Φ m0 w xs hbase hr ⟨hphi, fun s B hB => (by cases hB), fun _ _ => rfl, fun _ _ _ _ _ _ _ _ _ h => (by cases h), fun _ _ _ _ h => (by cases h)⟩
  unfold CallsV at this
  rw [callFunc_enter hf hb hne] at this
  refine Calls.mono this fun e w' he => ?_
  cases e with
  | returned v =>
    obtain ⟨Φ', m', hv, hI', hG'⟩ := he
    cases hv
    exact ⟨rfl, ⟨fun b hb => hG'.same b hb fun i e z h => (by cases h), hG'.size, hG'.os, hG'.out⟩⟩
  | _ => exact he.elim

/-- A law of no argument. -/
theorem law_closed {P : Program} {f : FuncId} {fn : Func} {w : World} (hf : P.funcs[f]? = some fn) (hb : fn.body.isSome = true) (hne : (fn.name == "runtime.NumGoroutine") = false) (h : SoundCall P (fun _ _ => none) f [] [] ⟨.bool true, [], []⟩) :
    Calls P f #[] w fun e w' => e = .returned (.bool true) ∧ Kept w w' :=
  law_calls (Φ := fun _ _ => none) hf hb hne h (by simpa using Rs.nil) (fun _ _ _ h => (by cases h)) (fun _ _ _ h => (by cases h))
/-- .. where package-level variables hold something. -/
theorem law_closed_at {P : Program} {Φg : Phi} {f : FuncId} {fn : Func} {w : World} (hf : P.funcs[f]? = some fn) (hb : fn.body.isSome = true) (hne : (fn.name == "runtime.NumGoroutine") = false) (h : SoundCall P Φg f [] [] ⟨.bool true, [], []⟩)
    (hg : ∀ b o x, Φg b o = some x → w.cell? ⟨b, o, none⟩ = some x) : Calls P f #[] w fun e w' => e = .returned (.bool true) ∧ Kept w w' :=
  law_calls (Φ := Φg) hf hb hne h (by simpa using Rs.nil) (fun _ _ _ h => h) hg
/-- What is asked behind the call, where what was there stays. -/
theorem post_kept {H : Type} {enc : TypeId × Value → H} {P : Program} {f : Func} {s : ChangeSpec} {apart fresh handsOn : Bool} {W W' : World} {args : Array Value} {v : Value} {ds gs : List (DataW H)} {before pa pv : List MemPlace}
    (hW : DataW.Whole enc P f.params.toList s.vars apart W args.toList ds gs before)
    (hres : ∀ (b : Nat) (sp : Nat → Bool) (hd : Bool), DataW.TrodAll enc P W' b sp hd f.resultTypes.toList (v.resultList f.resultTypes.size) (s.fn H (ds ++ gs)).results [])
    (hargs : ∀ sp : Nat → Bool, (∀ p ∈ before, sp p.block = true) → DataW.TrodAll enc P W' 0 sp true f.params.toList args.toList (s.fn H (ds ++ gs)).args pa)
    (hvars : ∀ sp : Nat → Bool, (∀ p ∈ before, sp p.block = true) → DataW.TrodVars enc P W' sp s.vars (s.fn H (ds ++ gs)).vars pv)
    (hk : Kept W W') : s.post enc P f apart fresh handsOn false W args v W' := by
  have hold : ∀ p ∈ before, (fun b => decide (b < W.heap.size)) p.block = true := fun p hp => by simpa using hW.lt p hp
  refine ⟨ds, gs, before, [], pa, pv, hW, hres _ _ _, hargs _ hold, hvars _ hold, hk.but _, fun h => by cases h⟩
end Go.Ab
