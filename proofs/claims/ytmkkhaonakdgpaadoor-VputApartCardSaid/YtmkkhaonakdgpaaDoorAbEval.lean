/- The runner, run to its end: closed calls by the kernel. -/
import Derived.Test.YtmkkhaonakdgpaaDoorAbPlan
namespace Go.Ab
open Go

/-! ### Alike -/
mutual
def AV.beq : AV → AV → Bool
  | .bool a, .bool b => bif a then b else !b
  | .int k a, .int l b => decide (k = l) && decide (a = b)
  | .str a, .str b => decide (a = b)
  | .nilp, .nilp => true
  | .nils, .nils => true
  | .nilf, .nilf => true
  | .nili, .nili => true
  | .iface t v, .iface u w => Nat.beq t u && AV.beq v w
  | .func f a c, .func g b d => Nat.beq f g && AV.beqs a b && AV.beqs c d
  | .agg a, .agg b => AV.beqs a b
  | .tuple a, .tuple b => AV.beqs a b
  | .tree a, .tree b => AV.beqs a b
  | .cptr a, .cptr b => AV.beq a b
  | .ref s i o, .ref t j p => Site.eq s t && Nat.beq i j && Nat.beq o p
  | .sref s i o, .sref t j p => Site.eq s t && Nat.beq i j && Nat.beq o p
  | .raw (.pointer (some ⟨b, o, none⟩)), .raw (.pointer (some ⟨c, p, none⟩)) => Nat.beq b c && Nat.beq o p
  | _, _ => false
def AV.beqs : List AV → List AV → Bool
  | [], [] => true
  | a :: r, b :: q => AV.beq a b && AV.beqs r q
  | _, _ => false
end
theorem Site.eq_ok {a b : Site} (h : Site.eq a b = true) : a = b := by
  unfold Site.eq at h
  split at h <;> simp_all
mutual
theorem AV.beq_ok : ∀ {a b : AV}, AV.beq a b = true → a = b := fun {a b} h => by
  unfold AV.beq at h
  split at h
  · rename_i a b; cases a <;> cases b <;> first | rfl | cases h
  · simp only [Bool.and_eq_true, decide_eq_true_eq] at h; rw [h.1, h.2]
  · rw [of_decide_eq_true h]
  · rfl
  · rfl
  · rfl
  · rfl
  · rename_i t v u w; simp only [Bool.and_eq_true, Nat.beq_eq] at h; rw [h.1, AV.beq_ok (a := v) h.2]
  · rename_i f a c g b d; simp only [Bool.and_eq_true, Nat.beq_eq] at h; rw [h.1.1, AV.beqs_ok (a := a) h.1.2, AV.beqs_ok (a := c) h.2]
  · rename_i a b; rw [AV.beqs_ok (a := a) h]
  · rename_i a b; rw [AV.beqs_ok (a := a) h]
  · rename_i a b; rw [AV.beqs_ok (a := a) h]
  · rename_i a b; rw [AV.beq_ok (a := a) h]
  · simp only [Bool.and_eq_true, Nat.beq_eq] at h; rw [Site.eq_ok h.1.1, h.1.2, h.2]
  · simp only [Bool.and_eq_true, Nat.beq_eq] at h; rw [Site.eq_ok h.1.1, h.1.2, h.2]
  · simp only [Bool.and_eq_true, Nat.beq_eq] at h; rw [h.1, h.2]
  · cases h
theorem AV.beqs_ok : ∀ {a b : List AV}, AV.beqs a b = true → a = b
  | [], [], _ => rfl
  | a :: r, b :: q, h => by
    simp only [AV.beqs, Bool.and_eq_true] at h
    rw [AV.beq_ok h.1, AV.beqs_ok h.2]
  | [], _ :: _, h => by cases h
  | _ :: _, [], h => by cases h
end
def Blk.beq : Blk → Blk → Bool
  | .box v a, .box w b => AV.beq v w && (bif a then b else !b)
  | .row e x a c, .row f y b d => Nat.beq e f && AV.beqs x y && (bif a then b else !b) && (bif c then d else !d)
  | .gone, .gone => true
  | _, _ => false
theorem bif_eq {a b : Bool} (h : (bif a then b else !b) = true) : a = b := by cases a <;> cases b <;> first | rfl | cases h
theorem Blk.beq_ok {a b : Blk} (h : Blk.beq a b = true) : a = b := by
  unfold Blk.beq at h
  split at h
  · simp only [Bool.and_eq_true] at h; rw [AV.beq_ok h.1, bif_eq h.2]
  · simp only [Bool.and_eq_true, Nat.beq_eq] at h; rw [h.1.1.1, AV.beqs_ok h.1.1.2, bif_eq h.1.2, bif_eq h.2]
  · rfl
  · cases h
def Blk.beqs : List Blk → List Blk → Bool
  | [], [] => true
  | a :: r, b :: q => Blk.beq a b && Blk.beqs r q
  | _, _ => false
theorem Blk.beqs_ok : ∀ {a b : List Blk}, Blk.beqs a b = true → a = b
  | [], [], _ => rfl
  | a :: r, b :: q, h => by
    simp only [Blk.beqs, Bool.and_eq_true] at h
    rw [Blk.beq_ok h.1, Blk.beqs_ok h.2]
  | [], _ :: _, h => by cases h
  | _ :: _, [], h => by cases h
def Res.beq (a b : Res) : Bool := AV.beq a.v b.v && Blk.beqs a.back b.back && Blk.beqs a.out b.out
theorem Res.beq_ok {a b : Res} (h : Res.beq a b = true) : a = b := by
  cases a; cases b
  simp only [Res.beq, Bool.and_eq_true] at h
  rw [AV.beq_ok h.1.1, Blk.beqs_ok h.1.2, Blk.beqs_ok h.2]

/-! ### To the end -/
structure Env where
  cfg : Cfg
  fn : FuncId → Option Func
  meth : TypeId → String → Option (FuncId × Bool)
  ta : TypeId → TypeId → Option Bool
  known : FuncId → List AV → List Blk → Option Res

def nth {β : Type} : List β → Nat → Option β
  | [], _ => none
  | a :: _, 0 => some a
  | _ :: r, n + 1 => nth r n
theorem nth_eq {β : Type} : ∀ (l : List β) (n : Nat), nth l n = l[n]?
  | [], n => by simp [nth]
  | a :: r, 0 => rfl
  | a :: r, n + 1 => by simp only [nth, List.getElem?_cons_succ]; exact nth_eq r n
def toByte : AV → Option UInt8
  | .int .u8 (.ofNat n) => bif Nat.blt n 256 then some (UInt8.ofNat n) else none
  | _ => none
theorem toByte_ok {v : AV} {c : UInt8} (h : toByte v = some c) : v = .int .u8 c.toNat := by
  unfold toByte at h
  split at h
  · rename_i n
    cases hb : Nat.blt n 256 with
    | false => rw [hb] at h; cases h
    | true =>
      rw [hb] at h; cases h
      have : n < 256 := by simpa using hb
      simp [Nat.mod_eq_of_lt this]
  · cases h
def toBytes : List AV → Option (List UInt8)
  | [] => some []
  | v :: r => match toByte v with
    | some c => match toBytes r with
      | some l => some (c :: l)
      | none => none
    | none => none
theorem toBytes_ok : ∀ {xs : List AV} {bs : List UInt8}, toBytes xs = some bs → xs = bs.map (fun c => AV.int .u8 c.toNat)
  | [], _, h => by cases h; rfl
  | v :: r, bs, h => by
    unfold toBytes at h
    split at h
    · rename_i c hc
      split at h
      · rename_i l hl
        cases h
        rw [List.map_cons, ← toBytes_ok hl, toByte_ok hc]
      · cases h
    · cases h
def allLen (e : Nat) : List AV → Bool
  | [] => true
  | v :: r => Nat.beq v.cells.length e && allLen e r
theorem allLen_ok {e : Nat} : ∀ {xs : List AV}, allLen e xs = true → ∀ v ∈ xs, v.cells.length = e
  | [], _, v, h => by cases h
  | a :: r, h, v, hv => by
    simp only [allLen, Bool.and_eq_true, Nat.beq_eq] at h
    rcases List.mem_cons.1 hv with rfl | hv
    · exact h.1
    · exact allLen_ok h.2 v hv

def fN {β : Type} (m : Nat) (k : Nat → β) : β :=
  match m with
  | 0 => k 0
  | n + 1 => k (Nat.succ n)
theorem fN_eq {β : Type} (m : Nat) (k : Nat → β) : fN m k = k m := by cases m <;> rfl
def fI {β : Type} (m : Int) (k : Int → β) : β :=
  match m with
  | .ofNat n => fN n fun n => k (.ofNat n)
  | .negSucc n => fN n fun n => k (.negSucc n)
theorem fI_eq {β : Type} (m : Int) (k : Int → β) : fI m k = k m := by cases m <;> simp [fI, fN_eq]
def fB {β : Type} (b : Bool) (k : Bool → β) : β :=
  match b with
  | true => k true
  | false => k false
theorem fB_eq {β : Type} (m : Bool) (k : Bool → β) : fB m k = k m := by cases m <;> rfl
/-- Numbers laid open. -/
def f1 {β : Type} (v : AV) (k : AV → β) : β :=
  match v with
  | .int i n => fI n fun n => k (.int i n)
  | .bool b => fB b fun b => k (.bool b)
  | v => k v
theorem f1_eq {β : Type} (v : AV) (k : AV → β) : f1 v k = k v := by
  unfold f1; split <;> simp [fI_eq, fB_eq]
def f1s {β : Type} (vs : List AV) (k : List AV → β) : β :=
  match vs with
  | [] => k []
  | v :: r => f1 v fun v => f1s r fun r => k (v :: r)
theorem f1s_eq {β : Type} : ∀ (vs : List AV) (k : List AV → β), f1s vs k = k vs
  | [], k => rfl
  | v :: r, k => by simp only [f1s, f1_eq, f1s_eq r]
def f2 {β : Type} (v : AV) (k : AV → β) : β :=
  match v with
  | .agg cs => f1s cs fun cs => k (.agg cs)
  | .tuple cs => f1s cs fun cs => k (.tuple cs)
  | v => f1 v k
theorem f2_eq {β : Type} (v : AV) (k : AV → β) : f2 v k = k v := by
  unfold f2; split <;> simp [f1_eq, f1s_eq]
def f2s {β : Type} (vs : List AV) (k : List AV → β) : β :=
  match vs with
  | [] => k []
  | v :: r => f2 v fun v => f2s r fun r => k (v :: r)
theorem f2s_eq {β : Type} : ∀ (vs : List AV) (k : List AV → β), f2s vs k = k vs
  | [], k => rfl
  | v :: r, k => by simp only [f2s, f2_eq, f2s_eq r]
def fT {β : Type} (vs : Temps) (k : Temps → β) : β :=
  match vs with
  | [] => k []
  | (t, v) :: r => f2 v fun v => fT r fun r => k ((t, v) :: r)
theorem fT_eq {β : Type} : ∀ (vs : Temps) (k : Temps → β), fT vs k = k vs
  | [], k => rfl
  | (t, v) :: r, k => by simp only [fT, f2_eq, fT_eq r]
def fBk {β : Type} (b : Blk) (k : Blk → β) : β :=
  match b with
  | .box v w => f2 v fun v => k (.box v w)
  | .row e xs w r => f2s xs fun xs => k (.row e xs w r)
  | .gone => k .gone
theorem fBk_eq {β : Type} (v : Blk) (k : Blk → β) : fBk v k = k v := by
  unfold fBk; split <;> simp [f2_eq, f2s_eq]
def fH {β : Type} (vs : Heap) (k : Heap → β) : β :=
  match vs with
  | [] => k []
  | (t, v) :: r => fBk v fun v => fH r fun r => k ((t, v) :: r)
theorem fH_eq {β : Type} : ∀ (vs : Heap) (k : Heap → β), fH vs k = k vs
  | [], k => rfl
  | (t, v) :: r, k => by simp only [fH, fBk_eq, fH_eq r]
def fS {β : Type} (s : St) (k : St → β) : β :=
  match s with
  | ⟨T, H⟩ => fT T fun T => fH H fun H => k ⟨T, H⟩
theorem fS_eq {β : Type} (s : St) (k : St → β) : fS s k = k s := by
  cases s; simp [fS, fT_eq, fH_eq]
def fR {β : Type} (r : Res) (k : Res → β) : β :=
  match r with
  | ⟨v, b, o⟩ => f2 v fun v => k ⟨v, b, o⟩
theorem fR_eq {β : Type} (r : Res) (k : Res → β) : fR r k = k r := by
  cases r; simp [fR, f2_eq]

section
variable (E : Env) (F : FuncId → List AV → List Blk → Option Res) (fid : FuncId)
def runD : Nat → DT Res → Option Res
  | 0, _ => none
  | n + 1, d => match d with
    | .ret a => some a
    | .fail _ => none
    | .node c a b => bif c then runD n a else runD n b
    | .amb a b => match runD n a with
      | some x => match runD n b with
        | some y => bif Res.beq x y then some x else none
        | none => none
      | none => none
    | .elem xs i k => match nth xs i with
      | some v => runD n (k v)
      | none => none
    | .byte xs i k => match nth xs i with
      | some v => runD n (k v)
      | none => none
    | .bytes xs k => match toBytes xs with
      | some bs => runD n (k bs)
      | none => none
    | .fin i m k => match i with
      | .ofNat j => bif Nat.blt j m then runD n (k j) else none
      | _ => none
    | .esz xs e k => bif allLen e xs then runD n k else none
    | .call f args inc k => f2s args fun args => match F f args inc with
      | some r => fR r fun r => runD n (k r)
      | none => none
    | .meth t m k => match E.meth t m with
      | some (f, b) => runD n (k f b)
      | none => none
    | .ta t u k => match E.ta t u with
      | some b => runD n (k b)
      | none => none
    | .loop body live s k => fS s fun s => runD n (execD E.cfg fid body s (againD body live k))
theorem runD_ok {X : Ctx} (hcfg : X.cfg = E.cfg) (hF : ∀ f args inc r, F f args inc = some r → X.call f args inc r) (hM : ∀ t m f b, E.meth t m = some (f, b) → X.meth t m f b) (hTA : ∀ t u b, E.ta t u = some b → X.ta t u b) :
    ∀ (n : Nat) (d : DT Res) (a : Res), runD E F fid n d = some a → Sat X fid d (· = a)
  | 0, d, a, h => by cases h
  | n + 1, d, a, h => by
    have ih := runD_ok hcfg hF hM hTA n
    unfold runD at h
    split at h
    · cases h; exact Sat.ret rfl
    · cases h
    · rename_i c x y
      cases c
      · exact Sat.nodeF rfl (ih _ _ h)
      · exact Sat.nodeT rfl (ih _ _ h)
    · split at h
      · rename_i x hx
        split at h
        · rename_i y hy
          cases hb : Res.beq x y with
          | false => rw [hb] at h; cases h
          | true =>
            rw [hb] at h; cases h
            have := Res.beq_ok hb
            subst this
            exact Sat.amb (ih _ _ hx) (ih _ _ hy)
        · cases h
      · cases h
    · split at h
      · rename_i v hv
        exact Sat.elem v (by rw [← nth_eq]; exact hv) (ih _ _ h)
      · cases h
    · split at h
      · rename_i v hv
        exact Sat.byte v (by rw [← nth_eq]; exact hv) (ih _ _ h)
      · cases h
    · split at h
      · rename_i bs hb
        exact Sat.bytes bs (toBytes_ok hb) (ih _ _ h)
      · cases h
    · split at h
      · rename_i i m k j
        cases hb : Nat.blt j i with
        | false => rw [hb] at h; cases h
        | true =>
          rw [hb] at h
          exact Sat.fin j rfl (by simpa using hb) (ih _ _ h)
      · cases h
    · rename_i xs e k
      cases hb : allLen e xs with
      | false => rw [hb] at h; cases h
      | true =>
        rw [hb] at h
        exact Sat.esz (allLen_ok hb) (ih _ _ h)
    · rw [f2s_eq] at h
      split at h
      · rename_i r hr
        rw [fR_eq] at h
        exact Sat.call (hF _ _ _ _ hr) (ih _ _ h)
      · cases h
    · split at h
      · rename_i f b hf
        exact Sat.meth (hM _ _ _ _ hf) (ih _ _ h)
      · cases h
    · split at h
      · rename_i b hb
        exact Sat.ta (hTA _ _ _ hb) (ih _ _ h)
      · cases h
    · rw [fS_eq] at h
      refine Sat.loop ?_
      rw [hcfg]
      exact ih _ _ h

end

/-- A call, so deep at most. -/
def ev (E : Env) : Nat → FuncId → List AV → List Blk → Option Res
  | 0, _, _, _ => none
  | d + 1, f, args, inc => match E.known f args inc with
    | some r => some r
    | none => match E.fn f with
      | some fn => runD E (ev E d) f 1000000 (startD E.cfg f fn args inc)
      | none => none

structure EnvOk (P : Program) (Φg : Phi) (X : Ctx) (E : Env) : Prop where
  ctx : CtxOk P Φg X
  cfg : X.cfg = E.cfg
  call : X.call = SoundCall P Φg
  fn : ∀ f fn, E.fn f = some fn → ∃ dg, P.funcs[f]? = some fn ∧ codeL E.cfg dg f fn.ntmps (match fn.body with | some c => c | none => .skip) = true ∧ (fn.name == "runtime.NumGoroutine") = false
  meth : ∀ t m f b, E.meth t m = some (f, b) → X.meth t m f b
  ta : ∀ t u b, E.ta t u = some b → X.ta t u b
  known : ∀ f args inc r, E.known f args inc = some r → SoundCall P Φg f args inc r

theorem ev_ok {P : Program} {Φg : Phi} {X : Ctx} {E : Env} (h : EnvOk P Φg X E) : ∀ (d : Nat) (f : FuncId) (args : List AV) (inc : List Blk) (r : Res), ev E d f args inc = some r → SoundCall P Φg f args inc r
  | 0, _, _, _, _, hr => by cases hr
  | d + 1, f, args, inc, r, hr => by
    unfold ev at hr
    split at hr
    · rename_i r' hk
      cases hr
      exact h.known _ _ _ _ hk
    split at hr
    · rename_i fn hfn
      obtain ⟨dg, h1, h2, h3⟩ := h.fn f fn hfn
      obtain ⟨n, hs⟩ := runD_ok E (ev E d) f h.cfg (fun f args inc r hr => by rw [h.call]; exact ev_ok h d f args inc r hr) h.meth h.ta _ _ _ hr
      cases hb : fn.body with
      | none => unfold startD at hs; rw [hb] at hs; exact hs.no_fail.elim
      | some c =>
        rw [hb] at h2
        rw [← h.cfg] at hs h2
        exact start_ok h.ctx h1 hb h3 (codeL_ok h2) hs
    · cases hr
end Go.Ab
