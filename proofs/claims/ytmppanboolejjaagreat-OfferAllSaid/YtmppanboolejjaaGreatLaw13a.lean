/- Package cardamomlaw13: what one tells another, in the program and in the reference. No condition. -/
import Derived.Test.YtmppanboolejjaaGreatG3
import Derived.Test.YtmppanboolejjaaGreatRef11a
import Derived.Test.YtmppanboolejjaaGreatRef1e
import Derived.Test.YtmppanboolejjaaGreatRef1c
import Derived.Test.YtmppanboolejjaaGreatRef11e
import Derived.Test.YtmppanboolejjaaGreatRuns
import Derived.Test.YtmppanboolejjaaGreatOffer4
import Derived.Test.YtmppanboolejjaaGreatLaw13b
namespace Go.Ab
open Go
def okI (n : Int) : Prop := -9223372036854775808 ≤ n ∧ n ≤ 9223372036854775807
theorem wf_i64 {az : List AV} (h : (Ty.int .i64).Wf az) : ∃ n,(Ty.int .i64).join az = encI n ∧ okI n := by
  obtain ⟨n,rfl,hw⟩ := h
  exact ⟨n,rfl,by simpa [Lit.wf,IntKind.min,IntKind.max,IntKind.bits,IntKind.signed,okI] using hw⟩
def bestOf (seen : List Head) (last : Stamp) (l : List Version) : Option Version :=
  l.foldl (fun b v => if behind seen last v && (match b with | none => true | some w => decide (v.S.cmp w.S < 0)) then some v else b) none
def batchOf (seen : List Head) (l : List Version) : Nat → Stamp → List Version
  | 0,_ => []
  | n + 1,last => match bestOf seen last l with
    | none => []
    | some v => v :: batchOf seen l n v.S
theorem Mesh.Ok.apart {size k : Nat} {B : Int} {m : Mesh} (h : m.Ok size B k) {v w : Version} (hv : v ∈ m.Issued) (hw : w ∈ m.Issued) (e : v.S = w.S) : v = w := by
  obtain ⟨i,hi,rfl⟩ := List.getElem_of_mem hv
  obtain ⟨j,hj,rfl⟩ := List.getElem_of_mem hw
  have hp := List.pairwise_iff_getElem.1 h.sd
  rcases Nat.lt_trichotomy i j with c | c | c
  · exact absurd e (hp i j hi hj c)
  · subst c; rfl
  · exact absurd e.symm (hp j i hj hi c)
def bestStep (seen : List Head) (last : Stamp) (b : Option Version) (v : Version) : Option Version := if behind seen last v && (match b with | none => true | some w => decide (v.S.cmp w.S < 0)) then some v else b
theorem nlt_trans (a b c : Stamp) (h1 : ¬ a.cmp b < 0) (h2 : ¬ b.cmp c < 0) : ¬ a.cmp c < 0 := by
  rcases Int.lt_or_eq_of_le (show 0 ≤ a.cmp b by omega) with e1 | e1
  · rcases Int.lt_or_eq_of_le (show 0 ≤ b.cmp c by omega) with e2 | e2
    · have := cmp_trans a b c e1 e2; omega
    · rw [← (cmp_zero b c).1 e2.symm]; omega
  · rw [(cmp_zero a b).1 e1.symm]; omega
theorem bestStep_is (seen : List Head) (last : Stamp) (b : Option Version) (v : Version) :
    (bestStep seen last b v = none ↔ b = none ∧ behind seen last v = false) ∧
    ∀ x,bestStep seen last b v = some x → (b = some x ∨ (x = v ∧ behind seen last v = true)) ∧ (∀ w,b = some w → ¬ w.S.cmp x.S < 0) ∧ (behind seen last v = true → ¬ v.S.cmp x.S < 0) := by
  have self : ∀ a : Stamp,¬ a.cmp a < 0 := fun a => by rw [(cmp_zero a a).2 rfl]; decide
  unfold bestStep
  cases hv : behind seen last v with
  | false =>
    simp only [Bool.false_and,Bool.false_eq_true,if_false,and_true,true_and]
    exact fun x hx => ⟨.inl hx,fun w hw => by rw [hx] at hw; cases hw; exact self _,fun h => by cases h⟩
  | true =>
    rcases b with _ | w
    · simp only [Bool.and_self,if_true]
      refine ⟨by simp,fun x hx => ?_⟩
      cases hx
      exact ⟨.inr ⟨rfl,trivial⟩,fun w hw => (by cases hw),fun _ => self _⟩
    · by_cases hc : v.S.cmp w.S < 0
      · simp only [hc,decide_true,Bool.and_self,if_true]
        refine ⟨by simp,fun x hx => ?_⟩
        cases hx
        exact ⟨.inr ⟨rfl,trivial⟩,fun u hu => by cases hu; have := cmp_neg w.S v.S; omega,fun _ => self _⟩
      · simp only [hc,decide_false,Bool.and_false,Bool.false_eq_true,if_false]
        refine ⟨by simp,fun x hx => ?_⟩
        cases hx
        exact ⟨.inl rfl,fun u hu => by cases hu; exact self _,fun _ => hc⟩
theorem bestOf_go (seen : List Head) (last : Stamp) : ∀ (l : List Version) (b : Option Version),
    (l.foldl (bestStep seen last) b = none ↔ b = none ∧ ∀ v ∈ l,behind seen last v = false) ∧
    (∀ x,l.foldl (bestStep seen last) b = some x → (b = some x ∨ (x ∈ l ∧ behind seen last x = true)) ∧ (∀ w,b = some w → ¬ w.S.cmp x.S < 0) ∧ ∀ v ∈ l,behind seen last v = true → ¬ v.S.cmp x.S < 0)
  | [],b => by
    refine ⟨by simp,fun x hx => ⟨.inl hx,fun w hw => ?_,by simp⟩⟩
    have : w = x := by rw [show b = some x from hx] at hw; exact (Option.some.inj hw).symm
    rw [this,(cmp_zero x.S x.S).2 rfl]; decide
  | v :: l,b => by
    rw [List.foldl_cons]
    obtain ⟨i1,i2⟩ := bestOf_go seen last l (bestStep seen last b v)
    obtain ⟨s1,s2⟩ := bestStep_is seen last b v
    generalize bestStep seen last b v = z at *
    generalize l.foldl (bestStep seen last) z = r at *
    refine ⟨⟨fun h => ?_,fun h => ?_⟩,fun x hx => ?_⟩
    · obtain ⟨h1,h2⟩ := i1.1 h
      obtain ⟨h3,h4⟩ := s1.1 h1
      exact ⟨h3,fun u hu => by
        rcases List.mem_cons.1 hu with rfl | hu
        · exact h4
        · exact h2 u hu⟩
    · exact i1.2 ⟨s1.2 ⟨h.1,h.2 v (List.mem_cons_self ..)⟩,fun u hu => h.2 u (List.mem_cons_of_mem _ hu)⟩
    · obtain ⟨h1,h2,h3⟩ := i2 x hx
      have up : ∀ u : Version,(∀ z',z = some z' → ¬ u.S.cmp z'.S < 0) → z ≠ none → ¬ u.S.cmp x.S < 0 := fun u hu hz => by
        rcases z with _ | z'
        · exact absurd rfl hz
        · exact nlt_trans _ _ _ (hu z' rfl) (h2 z' rfl)
      refine ⟨?_,fun w hw => up w (fun z' e => (s2 z' e).2.1 w hw) (fun e => ?_),fun u hu hb => ?_⟩
      · rcases h1 with h1 | h1
        · rcases (s2 x h1).1 with h4 | h4
          · exact .inl h4
          · exact .inr ⟨by rw [h4.1]; exact List.mem_cons_self ..,by rw [h4.1]; exact h4.2⟩
        · exact .inr ⟨List.mem_cons_of_mem _ h1.1,h1.2⟩
      · have := (s1.1 e).1; rw [hw] at this; cases this
      · rcases List.mem_cons.1 hu with rfl | hu
        · exact up u (fun z' e => (s2 z' e).2.2 hb) (fun e => by have := (s1.1 e).2; rw [hb] at this; cases this)
        · exact h3 u hu hb
theorem batchOf_sorted {seen : List Head} {l o : List Version} (hp : o.Perm (l.filter fun v => decide (0 < v.S.cmp (headAt seen v.Item)))) (hs : o.Pairwise (fun a b => 0 < b.S.cmp a.S)) : ∀ (n : Nat) (last : Stamp),batchOf seen l n last = (o.filter fun v => decide (0 < v.S.cmp last)).take n
  | 0,last => by simp [batchOf]
  | n + 1,last => by
    obtain ⟨b1,b2⟩ := bestOf_go seen last l none
    have hb : ∀ v,behind seen last v = true ↔ (0 < v.S.cmp (headAt seen v.Item) ∧ 0 < v.S.cmp last) := fun v => by
      unfold behind; simp
    have hmem : ∀ v,v ∈ o.filter (fun v => decide (0 < v.S.cmp last)) ↔ (v ∈ l ∧ behind seen last v = true) := fun v => by
      rw [List.mem_filter,hp.mem_iff,List.mem_filter,hb]
      simp only [decide_eq_true_eq]
      constructor
      · rintro ⟨⟨h1,h2⟩,h3⟩; exact ⟨h1,h2,h3⟩
      · rintro ⟨h1,h2,h3⟩; exact ⟨⟨h1,h2⟩,h3⟩
    have hfs : (o.filter fun v => decide (0 < v.S.cmp last)).Pairwise (fun a b => 0 < b.S.cmp a.S) := hs.filter _
    unfold batchOf
    cases e : bestOf seen last l with
    | none =>
      have hn := b1.1 e
      have : (o.filter fun v => decide (0 < v.S.cmp last)) = [] := by
        rw [List.eq_nil_iff_forall_not_mem]
        intro v hv
        obtain ⟨h1,h2⟩ := (hmem v).1 hv
        rw [hn.2 v h1] at h2; cases h2
      rw [this]; simp
    | some v =>
      obtain ⟨h1,-,h3⟩ := b2 v e
      have hvb : v ∈ l ∧ behind seen last v = true := by
        rcases h1 with h1 | h1
        · cases h1
        · exact h1
      have hvf := (hmem v).2 hvb
      have hvl := ((hb v).1 hvb.2).2
      have key : ∀ f : List Version,f = (o.filter fun v => decide (0 < v.S.cmp last)) → f.Pairwise (fun a b => 0 < b.S.cmp a.S) → v ∈ f → f = v :: f.filter (fun x => decide (0 < x.S.cmp v.S)) := by
        intro f hf hsf hm
        rcases f with _ | ⟨x,t⟩
        · cases hm
        · obtain ⟨p1,p2⟩ := List.pairwise_cons.1 hsf
          have hx : x = v := by
            rcases List.mem_cons.1 hm with rfl | hm
            · rfl
            · have h5 := p1 v hm
              have hxm : x ∈ o.filter (fun v => decide (0 < v.S.cmp last)) := by rw [← hf]; exact List.mem_cons_self ..
              obtain ⟨h6,h7⟩ := (hmem x).1 hxm
              have h8 := h3 x h6 h7
              have := cmp_neg x.S v.S; omega
          subst hx
          have hz : ¬ 0 < x.S.cmp x.S := by rw [(cmp_zero x.S x.S).2 rfl]; omega
          rw [List.filter_cons_of_neg (by simpa using hz)]
          congr 1
          symm
          exact List.filter_eq_self.2 fun y hy => by simpa using p1 y hy
      have hk := key _ rfl hfs hvf
      rw [hk,List.take_succ_cons]
      show v :: batchOf seen l n v.S = _
      rw [batchOf_sorted hp hs n v.S]
      congr 2
      rw [List.filter_filter]
      refine List.filter_congr fun x _ => ?_
      by_cases c : 0 < x.S.cmp v.S
      · have := cmp_trans x.S v.S last c hvl
        simp [c,this]
      · simp [c]
end Go.Ab

namespace Go.Ab.Tryz
open Go
set_option maxRecDepth 100000
set_option maxHeartbeats 4000000
theorem c31 (a b : Version) (ha : a.Attrs.length ≤ 100000) : X.call 31 [encVersion a,encVersion b] [] ⟨.bool (decide (a = b)),[],[]⟩ := by
  refine spec_of ok Go.Proofs.Tryz.func31 ok31 ?_
  refine (.j (a.Item = b.Item) (fun _h4 => .iu _h4 (.iu _h4 (.iu _h4 (.iu _h4 (.iu _h4 (.T (.T (.T (.T (.T (.T (.T (.T (.T (.T (.T (.T (.T (.T (.T (.T (.T (.T (.T (.T (.T (.T (.T (.T (.T (.T (.T (.q (Res.mk (.bool false) [] []) (by (simp; intro e; subst e; simp_all))))))))))))))))))))))))))))))))))) (fun _h4 => .iv _h4 (.iv _h4 (.iv _h4 (.iv _h4 (.iv _h4 (Sat.pNodeEN (decide (a.S.L = b.S.L) && (decide (a.S.R = b.S.R) && (decide (a.S.N = b.S.N) && Bool.true))) (a.S.L = b.S.L ∧ a.S.R = b.S.R ∧ a.S.N = b.S.N ∧ True) (by kernel_rfl) (by simp only [Bool.and_eq_true,decide_eq_true_eq]) (fun _h5 => Sat.pNodeENF (decide (a.S.L = b.S.L) && (decide (a.S.R = b.S.R) && (decide (a.S.N = b.S.N) && Bool.true))) (a.S.L = b.S.L ∧ a.S.R = b.S.R ∧ a.S.N = b.S.N ∧ True) (by kernel_rfl) (by simp only [Bool.and_eq_true,decide_eq_true_eq]) _h5 (Sat.pNodeENF (decide (a.S.L = b.S.L) && (decide (a.S.R = b.S.R) && (decide (a.S.N = b.S.N) && Bool.true))) (a.S.L = b.S.L ∧ a.S.R = b.S.R ∧ a.S.N = b.S.N ∧ True) (by kernel_rfl) (by simp only [Bool.and_eq_true,decide_eq_true_eq]) _h5 (Sat.pNodeENF (decide (a.S.L = b.S.L) && (decide (a.S.R = b.S.R) && (decide (a.S.N = b.S.N) && Bool.true))) (a.S.L = b.S.L ∧ a.S.R = b.S.R ∧ a.S.N = b.S.N ∧ True) (by kernel_rfl) (by simp only [Bool.and_eq_true,decide_eq_true_eq]) _h5 (Sat.pNodeENF (decide (a.S.L = b.S.L) && (decide (a.S.R = b.S.R) && (decide (a.S.N = b.S.N) && Bool.true))) (a.S.L = b.S.L ∧ a.S.R = b.S.R ∧ a.S.N = b.S.N ∧ True) (by kernel_rfl) (by simp only [Bool.and_eq_true,decide_eq_true_eq]) _h5 (Sat.pNodeENF (decide (a.S.L = b.S.L) && (decide (a.S.R = b.S.R) && (decide (a.S.N = b.S.N) && Bool.true))) (a.S.L = b.S.L ∧ a.S.R = b.S.R ∧ a.S.N = b.S.N ∧ True) (by kernel_rfl) (by simp only [Bool.and_eq_true,decide_eq_true_eq]) _h5 (.T (.T (.T (.T (.T (.T (.T (.T (.T (.T (.T (.T (.T (.T (.T (.T (.T (.T (.T (.T (.T (.q (Res.mk (.bool false) [] []) (by (simp; intro e; subst e; simp_all))))))))))))))))))))))))))))) (fun _h5 => Sat.pNodeENT (decide (a.S.L = b.S.L) && (decide (a.S.R = b.S.R) && (decide (a.S.N = b.S.N) && Bool.true))) (a.S.L = b.S.L ∧ a.S.R = b.S.R ∧ a.S.N = b.S.N ∧ True) (by kernel_rfl) (by simp only [Bool.and_eq_true,decide_eq_true_eq]) _h5 (Sat.pNodeENT (decide (a.S.L = b.S.L) && (decide (a.S.R = b.S.R) && (decide (a.S.N = b.S.N) && Bool.true))) (a.S.L = b.S.L ∧ a.S.R = b.S.R ∧ a.S.N = b.S.N ∧ True) (by kernel_rfl) (by simp only [Bool.and_eq_true,decide_eq_true_eq]) _h5 (Sat.pNodeENT (decide (a.S.L = b.S.L) && (decide (a.S.R = b.S.R) && (decide (a.S.N = b.S.N) && Bool.true))) (a.S.L = b.S.L ∧ a.S.R = b.S.R ∧ a.S.N = b.S.N ∧ True) (by kernel_rfl) (by simp only [Bool.and_eq_true,decide_eq_true_eq]) _h5 (Sat.pNodeENT (decide (a.S.L = b.S.L) && (decide (a.S.R = b.S.R) && (decide (a.S.N = b.S.N) && Bool.true))) (a.S.L = b.S.L ∧ a.S.R = b.S.R ∧ a.S.N = b.S.N ∧ True) (by kernel_rfl) (by simp only [Bool.and_eq_true,decide_eq_true_eq]) _h5 (Sat.pNodeENT (decide (a.S.L = b.S.L) && (decide (a.S.R = b.S.R) && (decide (a.S.N = b.S.N) && Bool.true))) (a.S.L = b.S.L ∧ a.S.R = b.S.R ∧ a.S.N = b.S.N ∧ True) (by kernel_rfl) (by simp only [Bool.and_eq_true,decide_eq_true_eq]) _h5 (.j (a.Dead = b.Dead) (fun _h16 => .iu _h16 (.iu _h16 (.iu _h16 (.iu _h16 (.iu _h16 (.T (.T (.T (.T (.T (.T (.T (.T (.T (.T (.T (.T (.T (.T (.T (.q (Res.mk (.bool false) [] []) (by (simp; intro e; subst e; simp_all))))))))))))))))))))))) (fun _h16 => .iv _h16 (.iv _h16 (.iv _h16 (.iv _h16 (.iv _h16 (.j (a.Tag = b.Tag) (fun _h17 => .iu _h17 (.iu _h17 (.iu _h17 (.iu _h17 (.iu _h17 (.T (.T (.T (.T (.T (.T (.T (.T (.T (.q (Res.mk (.bool false) [] []) (by (simp; intro e; subst e; simp_all))))))))))))))))) (fun _h17 => .iv _h17 (.iv _h17 (.iv _h17 (.iv _h17 (.iv _h17 (.j (a.Body = b.Body) (fun _h18 => .iu _h18 (.iu _h18 (.iu _h18 (.iu _h18 (.iu _h18 (.iu _h18 (.iu _h18 (.T (.q (Res.mk (.bool false) [] []) (by (simp; intro e; subst e; simp_all))))))))))) (fun _h18 => .iv _h18 (.iv _h18 (.iv _h18 (.iv _h18 (.iv _h18 (.iv _h18 (.iv _h18 (.l ((↑(List.map encAttr a.Attrs).length : Int) = (↑(List.map encAttr b.Attrs).length : Int)) (a.Attrs.length = b.Attrs.length) (by simp only [List.length_map,Int.natCast_inj]) (fun _h19 => .q (Res.mk (.bool false) [] []) (by (simp; intro e; subst e; simp_all))) (fun _h19 => ?_))))))))))))))))))))))))))))))))))
  refine Sat.pLoop 4 (St.mk [(2,.ref (.head 2 0) 0 0),(3,.ref (.head 3 0) 0 0),(5,.int .i64 0)] [(.head 2 0,.box (encVersion a) true),(.head 3 0,.box (encVersion b) true)]) (by kernel_rfl) (fun (k : Nat) => ⟨[(2,.ref (.head 2 0) 0 0),(3,.ref (.head 3 0) 0 0),(5,.int .i64 k)],[(.head 2 0,.box (encVersion a) true),(.head 3 0,.box (encVersion b) true)]⟩) (fun k => k ≤ a.Attrs.length ∧ a.Attrs.take k = b.Attrs.take k) (fun k => a.Attrs.length - k) 0 rfl ?_ ?_
  · simp
  · intro k hk again
    refine (.kl encAttr a.Attrs k (fun _h13 => .T (.em encAttr a.Attrs k ‹_› (fun _x14 _hx15 => .T (.em encAttr b.Attrs k (by omega) (fun _x16 _hx17 => Sat.pNodeEN (decide (_x14.Key = _x16.Key) && (decide (_x14.Val = _x16.Val) && Bool.true)) (_x14.Key = _x16.Key ∧ _x14.Val = _x16.Val ∧ True) (by kernel_rfl) (by simp only [Bool.and_eq_true,decide_eq_true_eq]) (fun _h20 => .q (Res.mk (.bool false) [] []) (by (clear again; (simp; intro e; subst e; simp_all)))) (fun _h20 => have _w21 := wI64' ((↑k : Int) + (1 : Int)); .A (St.mk [(2,.ref (.head 2 0) 0 0),(3,.ref (.head 3 0) 0 0),(5,.int .i64 (IntKind.i64.wrap ((↑k : Int) + 1)))] [(.head 2 0,.box (encVersion a) true),(.head 3 0,.box (encVersion b) true)]) (by simp [encVersion,_w21]) (again (k + (1 : Nat)) (by (clear again; (refine ⟨by omega, ?_⟩; rw [take_succ ‹_›,take_succ ‹_›,hk.2]; simp_all [Attr.ext_iff]))) (by omega)))))))) (fun _h13 => .q (Res.mk (.bool true) [] []) (by (clear again; (rw [List.take_of_length_le (by omega),List.take_of_length_le (by omega)] at hk; simp_all [Version.ext_iff,Stamp.ext_iff])))))
theorem c66 (a b : List View) (hl : a.length ≤ 100000) (h : ∀ v ∈ a,v.Seen.length ≤ 100000 ∧ v.Epochs.length ≤ 100000) : X.call 66 [.tree (a.map encView),.tree (b.map encView)] [] ⟨.bool (decide (a = b)),[],[]⟩ := by
  refine spec_of ok Go.Proofs.Tryz.func66 ok66 ?_
  refine (.l ((↑(List.map encView a).length : Int) = (↑(List.map encView b).length : Int)) (a.length = b.length) (by simp only [List.length_map,Int.natCast_inj]) (fun _h5 => .q (Res.mk (.bool false) [] []) (by (simp; intro e; subst e; simp_all))) (fun _h5 => ?_))
  refine Sat.pLoop 4 (St.mk [(0,.tree (List.map encView a)),(1,.tree (List.map encView b)),(5,.int .i64 0)] []) (by kernel_rfl) (fun (k : Nat) => ⟨[(0,.tree (a.map encView)),(1,.tree (b.map encView)),(5,.int .i64 k)],[]⟩) (fun k => k ≤ a.length ∧ a.take k = b.take k) (fun k => a.length - k) 0 rfl ?_ ?_
  · simp
  · intro k hk again
    refine (.kl encView a k (fun _h9 => .T (.em encView a k ‹_› (fun _x10 _hx11 => have _hc12 := (h _x10 (List.mem_of_getElem? _hx11)).1; have _hc13 := (h _x10 (List.mem_of_getElem? _hx11)).2; .T (.em encView b k (by omega) (fun _x14 _hx15 => .c (@Tryz.c34 (_x10) (_x14) ‹_› ‹_›) (.j (_x10 = _x14) (fun _h16 => .q (Res.mk (.bool false) [] []) (by (clear again; (simp; intro e; subst e; simp_all)))) (fun _h16 => have _w17 := wI64' ((↑k : Int) + (1 : Int)); .A (St.mk [(0,.tree (List.map encView a)),(1,.tree (List.map encView b)),(5,.int .i64 (IntKind.i64.wrap ((↑k : Int) + 1)))] []) (by simp [_w17]) (again (k + (1 : Nat)) (by (clear again; (refine ⟨by omega, ?_⟩; rw [take_succ ‹_›,take_succ ‹_›,hk.2]; simp_all))) (by omega))))))))) (fun _h9 => .q (Res.mk (.bool true) [] []) (by (clear again; (rw [List.take_of_length_le (by omega),List.take_of_length_le (by omega)] at hk; simp_all)))))
theorem c67 (a b : List Version) (ha : a.length ≤ 100000) (hv : ∀ v ∈ a,v.Attrs.length ≤ 100000) : X.call 67 [.tree (a.map encVersion),.tree (b.map encVersion)] [] ⟨.bool (decide (a = b)),[],[]⟩ := by
  refine spec_of ok Go.Proofs.Tryz.func67 ok67 ?_
  refine (.l ((↑(List.map encVersion a).length : Int) = (↑(List.map encVersion b).length : Int)) (a.length = b.length) (by simp only [List.length_map,Int.natCast_inj]) (fun _h5 => .q (Res.mk (.bool false) [] []) (by (simp; intro e; subst e; simp_all))) (fun _h5 => ?_))
  refine Sat.pLoop 4 (St.mk [(0,.tree (List.map encVersion a)),(1,.tree (List.map encVersion b)),(5,.int .i64 0)] []) (by kernel_rfl) (fun (k : Nat) => ⟨[(0,.tree (a.map encVersion)),(1,.tree (b.map encVersion)),(5,.int .i64 k)],[]⟩) (fun k => k ≤ a.length ∧ a.take k = b.take k) (fun k => a.length - k) 0 rfl ?_ ?_
  · simp
  · intro k hk again
    refine (.kl encVersion a k (fun _h9 => .T (.em encVersion a k ‹_› (fun _x10 _hx11 => have _hc12 := (hv _x10 (List.mem_of_getElem? _hx11)); .T (.em encVersion b k (by omega) (fun _x13 _hx14 => .c (@Tryz.c31 (_x10) (_x13) ‹_›) (.j (_x10 = _x13) (fun _h15 => .q (Res.mk (.bool false) [] []) (by (clear again; (simp; intro e; subst e; simp_all)))) (fun _h15 => have _w16 := wI64' ((↑k : Int) + (1 : Int)); .A (St.mk [(0,.tree (List.map encVersion a)),(1,.tree (List.map encVersion b)),(5,.int .i64 (IntKind.i64.wrap ((↑k : Int) + 1)))] []) (by simp [_w16]) (again (k + (1 : Nat)) (by (clear again; (refine ⟨by omega, ?_⟩; rw [take_succ ‹_›,take_succ ‹_›,hk.2]; simp_all))) (by omega))))))))) (fun _h9 => .q (Res.mk (.bool true) [] []) (by (clear again; (rw [List.take_of_length_le (by omega),List.take_of_length_le (by omega)] at hk; simp_all)))))
end Go.Ab.Tryz

namespace Go.Ab.Tryz
open Go
set_option maxRecDepth 100000
set_option maxHeartbeats 4000000
theorem step_none {seen : List Head} {last : Stamp} {v : Version} (h : ¬ (0 < v.S.cmp (headAt seen v.Item) ∧ 0 < v.S.cmp last)) (b : Option Version) : bestStep seen last b v = b := by
  unfold bestStep behind
  have : (decide (0 < v.S.cmp (headAt seen v.Item)) && decide (0 < v.S.cmp last)) = false := by
    rw [← Bool.decide_and]; exact decide_eq_false h
  rw [this]; simp
theorem step_first {seen : List Head} {last : Stamp} {v : Version} (h1 : 0 < v.S.cmp (headAt seen v.Item)) (h2 : 0 < v.S.cmp last) : bestStep seen last none v = some v := by
  unfold bestStep behind; simp [h1,h2]
theorem step_less {seen : List Head} {last : Stamp} {v w : Version} (h1 : 0 < v.S.cmp (headAt seen v.Item)) (h2 : 0 < v.S.cmp last) (h3 : v.S.cmp w.S < 0) : bestStep seen last (some w) v = some v := by
  unfold bestStep behind; simp [h1,h2,h3]
theorem step_more {seen : List Head} {last : Stamp} {v w : Version} (h3 : ¬ v.S.cmp w.S < 0) : bestStep seen last (some w) v = some w := by
  unfold bestStep; simp [h3]
theorem fold_succ {seen : List Head} {last : Stamp} {l : List Version} {k : Nat} {v : Version} (hv : l[k]? = some v) (b : Option Version) : (l.take (k + 1)).foldl (bestStep seen last) b = bestStep seen last ((l.take k).foldl (bestStep seen last) b) v := by
  rw [take_succ hv,List.foldl_append]; rfl
theorem batch_none {seen : List Head} {last : Stamp} {l : List Version} (h : l.foldl (bestStep seen last) none = none) (n : Nat) : batchOf seen l n last = [] := by
  cases n with
  | zero => rfl
  | succ n => unfold batchOf; rw [show bestOf seen last l = none from h]
theorem batch_some {seen : List Head} {last : Stamp} {l : List Version} {v : Version} (h : l.foldl (bestStep seen last) none = some v) (n : Nat) : batchOf seen l (n + 1) last = v :: batchOf seen l n v.S := by
  conv => lhs; unfold batchOf
  rw [show bestOf seen last l = some v from h]
theorem to_exact (r : Repl) (to batch : Int) (hl : r.Views.length ≤ 1000) (h0 : r.Size ≤ r.Views.length) (hw : ∀ w ∈ r.Views,w.Seen.length ≤ 100000) (hh : r.Held.length ≤ 1000) (hr : ∃ w ∈ r.Views,0 < w.Rev) (t1 : 1 ≤ to) (t2 : to ≤ r.Size) (t3 : to ≠ r.ID) (b1 : 1 ≤ batch) (b4 : batch ≤ 4) {w0 : View} (hw0 : r.Views[(to - 1).toNat]? = some w0) : X.call 28 [encRepl r,.int .i64 to,.int .i64 batch] [] ⟨.tuple [encGossip ⟨r.ID,to,r.Views.filter fun v => decide (0 < v.Rev),batchOf w0.Seen r.Held batch.toNat ⟨0,0,0⟩⟩,.bool true],[],[]⟩ := by
  have hs0 := hw w0 (List.mem_of_getElem? hw0)
  refine spec_of ok Go.Proofs.Tryz.func28 ok28 ?_
  refine (.i (to < 1) (fun _h17 => False.elim (by omega)) (fun _h17 => .iF _h17 (.iF _h17 (.iF _h17 (.iF _h17 (.i (r.Size < to) (fun _h18 => False.elim (by omega)) (fun _h18 => .iF _h18 (.iF _h18 (.iF _h18 (.iF _h18 (.i (to = r.ID) (fun _h19 => False.elim (by omega)) (fun _h19 => .iF _h19 (.iF _h19 (.i (batch < 1) (fun _h20 => False.elim (by omega)) (fun _h20 => .iF _h20 (.iF _h20 (.i (4 < batch) (fun _h21 => False.elim (by omega)) (fun _h21 => ?_))))))))))))))))))
  refine Sat.pLoop 5 (St.mk [(1,.int .i64 to),(2,.int .i64 batch),(3,.ref (.head 3 0) 0 0),(6,.ref (.head 6 0) 0 0),(8,.ref (.head 8 0) 0 0),(9,.int .i64 0)] [(.head 3 0,.box (encRepl r) true),(.head 6 0,.box (.agg [.int .i64 0,.int .i64 0,.nils,.nils]) true),(.head 8 0,.box (.agg [.int .i64 r.ID,.int .i64 to,.nils,.nils]) true)]) (by kernel_rfl) (fun (i : Nat) => ⟨[(1,.int .i64 to),(2,.int .i64 batch),(3,.ref (.head 3 0) 0 0),(6,.ref (.head 6 0) 0 0),(8,.ref (.head 8 0) 0 0),(9,.int .i64 i)],[(.head 3 0,.box (encRepl r) true),(.head 6 0,.box (.agg [.int .i64 0,.int .i64 0,.nils,.nils]) true),(.head 8 0,.box (.agg [.int .i64 r.ID,.int .i64 to,.nils,.nils]) true)]⟩) (fun i => i ≤ r.Views.length ∧ (r.Views.take i).filter (fun v => decide (0 < v.Rev)) = []) (fun i => r.Views.length - i) 0 rfl ?_ ?_
  · simp
  · rintro i ⟨hi,hn⟩ again
    by_cases hil : i < r.Views.length
    · obtain ⟨x,hx⟩ : ∃ x,r.Views[i]? = some x := ⟨r.Views[i],by simp⟩
      have hfx : (r.Views.take (i + 1)).filter (fun v => decide (0 < v.Rev)) = if 0 < x.Rev then [x] else [] := by
        rw [take_succ hx,List.filter_append,hn]
        by_cases c : 0 < x.Rev <;> simp [c]
      by_cases hxr : 0 < x.Rev
      · rw [if_pos hxr] at hfx
        refine (.el encView hil (.T (.eh encView hx (.it hxr (.T (.eh encView hx (.T (have _w32 := wI64' ((↑i : Int) + (1 : Int)); ?_))))))))
        refine Sat.pLoop 5 (St.mk [(1,.int .i64 to),(2,.int .i64 batch),(3,.ref (.head 3 0) 0 0),(6,.ref (.head 6 0) 0 0),(8,.ref (.head 8 0) 0 0),(9,.int .i64 (IntKind.i64.wrap ((↑i : Int) + 1)))] [(.head 3 0,.box (encRepl r) true),(.head 6 0,.box (.agg [.int .i64 0,.int .i64 0,.nils,.nils]) true),(.head 8 0,.box (.agg [.int .i64 r.ID,.int .i64 to,.sref (.head 8 1) 0 1,.nils]) true),(.head 8 1,.row 5 [encView x] true true)]) (by kernel_rfl) (fun (p : Nat × List View) => ⟨[(1,.int .i64 to),(2,.int .i64 batch),(3,.ref (.head 3 0) 0 0),(6,.ref (.head 6 0) 0 0),(8,.ref (.head 8 0) 0 0),(9,.int .i64 p.1)],[(.head 3 0,.box (encRepl r) true),(.head 6 0,.box (.agg [.int .i64 0,.int .i64 0,.nils,.nils]) true),(.head 8 0,.box (.agg [.int .i64 r.ID,.int .i64 to,.sref (.head 8 1) 0 p.2.length,.nils]) true),(.head 8 1,.row 5 (p.2.map encView) true true)]⟩) (fun p => p.1 ≤ r.Views.length ∧ p.2.length ≤ p.1 ∧ p.2 = (r.Views.take p.1).filter fun v => decide (0 < v.Rev)) (fun p => r.Views.length - p.1) (i + 1,[x]) (by (simp [encView,encRepl, *]; done)) ?_ ?_
        · exact ⟨by dsimp only; omega,by simp,hfx.symm⟩
        · rintro ⟨j,vs⟩ hJ again2
          obtain ⟨j1,j2,j3⟩ := hJ
          simp only at j1 j2 j3
          by_cases hjl : j < r.Views.length
          · obtain ⟨y,hy⟩ : ∃ y,r.Views[j]? = some y := ⟨r.Views[j],by simp⟩
            have hfy : (r.Views.take (j + 1)).filter (fun v => decide (0 < v.Rev)) = vs ++ (if 0 < y.Rev then [y] else []) := by
              rw [take_succ hy,List.filter_append,← j3]
              by_cases c : 0 < y.Rev <;> simp [c]
            by_cases hyr : 0 < y.Rev
            · rw [if_pos hyr] at hfy
              refine (.el encView hjl (.T (.eh encView hy (.it hyr (.T (.eh encView hy (.i ((vs.length + 1) * (80 : Nat) ≤ 140737488355328) (fun _h46 => .k (vs.length = (List.map encView vs).length) (True) (by simp only [List.length_map]) (fun _h47 => have _w48 := wI64' ((↑j : Int) + (1 : Int)); .A (St.mk [(1,.int .i64 to),(2,.int .i64 batch),(3,.ref (.head 3 0) 0 0),(6,.ref (.head 6 0) 0 0),(8,.ref (.head 8 0) 0 0),(9,.int .i64 (IntKind.i64.wrap ((↑j : Int) + 1)))] [(.head 3 0,.box (encRepl r) true),(.head 6 0,.box (.agg [.int .i64 0,.int .i64 0,.nils,.nils]) true),(.head 8 0,.box (.agg [.int .i64 r.ID,.int .i64 to,.sref (.head 8 1) 0 (vs.length + 1),.nils]) true),(.head 8 1,.row 5 (List.map encView vs ++ [encView y]) true true)]) (by simp [encRepl,_w48]) (again2 ((j + (1 : Nat),vs ++ [y])) ⟨(by dsimp only; omega),⟨(by dsimp only; (clear again again2; (simp; omega))),(by dsimp only; (clear again again2; (exact hfy.symm)))⟩⟩ (by dsimp only; omega))) (fun _h47 => (_h47 trivial).elim)) (fun _h46 => False.elim (by omega)))))))))
            · rw [if_neg hyr,List.append_nil] at hfy
              refine (.el encView hjl (.T (.eh encView hy (.iF hyr (have _w47 := wI64' ((↑j : Int) + (1 : Int)); .A (St.mk [(1,.int .i64 to),(2,.int .i64 batch),(3,.ref (.head 3 0) 0 0),(6,.ref (.head 6 0) 0 0),(8,.ref (.head 8 0) 0 0),(9,.int .i64 (IntKind.i64.wrap ((↑j : Int) + 1)))] [(.head 3 0,.box (encRepl r) true),(.head 6 0,.box (.agg [.int .i64 0,.int .i64 0,.nils,.nils]) true),(.head 8 0,.box (.agg [.int .i64 r.ID,.int .i64 to,.sref (.head 8 1) 0 vs.length,.nils]) true),(.head 8 1,.row 5 (List.map encView vs) true true)]) (by simp [encRepl,_w47]) (again2 ((j + (1 : Nat),vs)) ⟨(by dsimp only; omega),⟨(by dsimp only; omega),(by dsimp only; (clear again again2; (exact hfy.symm)))⟩⟩ (by dsimp only; omega)))))))
          · rw [List.take_of_length_le (by omega)] at j3
            rw [← j3]
            clear j3
            refine (.en encView hjl (have _w42 := wI64' (to - (1 : Int)); .k (0 ≤ IntKind.i64.wrap (to - 1)) (0 ≤ to - 1) (by simp only [_w42]) (fun _h43 => .eH encView r.Views ((IntKind.i64.wrap (to - 1)).toNat) (by simp only [_w42]) hw0 ?_) (fun _h43 => False.elim (by omega))))
            refine Sat.pUnroll 11 (St.mk [(2,.int .i64 batch),(3,.ref (.head 3 0) 0 0),(6,.ref (.head 6 0) 0 0),(8,.ref (.head 8 0) 0 0),(10,.tree (List.map encHead w0.Seen)),(11,.ref (.head 11 0) 0 0)] [(.head 3 0,.box (encRepl r) true),(.head 6 0,.box (.agg [.int .i64 0,.int .i64 0,.nils,.nils]) true),(.head 8 0,.box (.agg [.int .i64 r.ID,.int .i64 to,.sref (.head 8 1) 0 vs.length,.nils]) true),(.head 8 1,.row 5 (List.map encView vs) true true),(.head 11 0,.box (.agg [.int .i64 0,.int .i64 0,.int .i64 0]) true)]) (by kernel_rfl) ?_
            refine (.i (0 < batch) (fun _h44 => ?_) (fun _h44 => False.elim (by omega)))
            refine Sat.pLoop 14 (St.mk [(2,.int .i64 batch),(3,.ref (.head 3 0) 0 0),(6,.ref (.head 6 0) 0 0),(8,.ref (.head 8 0) 0 0),(10,.tree (List.map encHead w0.Seen)),(11,.ref (.head 11 0) 0 0),(12,.ref (.head 12 0) 0 0),(13,.bool false),(14,.int .i64 0)] [(.head 3 0,.box (encRepl r) true),(.head 6 0,.box (.agg [.int .i64 0,.int .i64 0,.nils,.nils]) true),(.head 8 0,.box (.agg [.int .i64 r.ID,.int .i64 to,.sref (.head 8 1) 0 vs.length,.nils]) true),(.head 8 1,.row 5 (List.map encView vs) true true),(.head 11 0,.box (.agg [.int .i64 0,.int .i64 0,.int .i64 0]) true),(.head 12 0,.box (.agg [.int .i64 0,.int .i64 0,.int .i64 0,.int .i64 0,.bool false,.nils,.str [],.str []]) true)]) (by kernel_rfl) (fun (k : Nat) => ⟨[(2,.int .i64 batch),(3,.ref (.head 3 0) 0 0),(6,.ref (.head 6 0) 0 0),(8,.ref (.head 8 0) 0 0),(10,.tree (w0.Seen.map encHead)),(11,.ref (.head 11 0) 0 0),(12,.ref (.head 12 0) 0 0),(13,.bool false),(14,.int .i64 k)],[(.head 3 0,.box (encRepl r) true),(.head 6 0,.box (.agg [.int .i64 0,.int .i64 0,.nils,.nils]) true),(.head 8 0,.box (.agg [.int .i64 r.ID,.int .i64 to,.sref (.head 8 1) 0 vs.length,.nils]) true),(.head 8 1,.row 5 (vs.map encView) true true),(.head 11 0,.box (.agg [.int .i64 0,.int .i64 0,.int .i64 0]) true),(.head 12 0,.box (.agg [.int .i64 0,.int .i64 0,.int .i64 0,.int .i64 0,.bool false,.nils,.str [],.str []]) true)]⟩) (fun k => k ≤ r.Held.length ∧ (r.Held.take k).foldl (bestStep w0.Seen (⟨0,0,0⟩ : Stamp)) none = none) (fun k => r.Held.length - k) 0 rfl ?_ ?_
            · exact ⟨by omega,by simp⟩
            · rintro k ⟨hk,hkn⟩ againA
              by_cases hkl : k < r.Held.length
              · obtain ⟨v,hv⟩ : ∃ v,r.Held[k]? = some v := ⟨r.Held[k],by simp⟩
                have hfs := fold_succ (seen := w0.Seen) (last := (⟨0,0,0⟩ : Stamp)) hv none
                rw [hkn] at hfs
                by_cases hb : 0 < v.S.cmp (headAt w0.Seen v.Item) ∧ 0 < v.S.cmp (⟨0,0,0⟩ : Stamp)
                · have hb1 := hb.1
                  have hb2 := hb.2
                  rw [step_first hb1 hb2] at hfs
                  refine (.el encVersion hkl (.T (.eh encVersion hv (.c (@Tryz.c33 (w0.Seen) (v.Item) ‹_›) (.c (@Tryz.c32 (v.S) (headAt w0.Seen v.Item)) (.it hb1 (.it hb1 (.it hb1 (.it hb1 (.c (@Tryz.c32 (v.S) (Stamp.mk (0 : Int) (0 : Int) (0 : Int))) (.it hb1 (.it hb1 (.it hb2 (.it hb2 (.it hb2 (.T (.T (.T (.T (.T (.T (.it hb2 (.T (.it hb2 (.T (have _w58 := wI64' ((↑k : Int) + (1 : Int)); ?_))))))))))))))))))))))))))
                  refine Sat.pLoop 14 (St.mk [(2,.int .i64 batch),(3,.ref (.head 3 0) 0 0),(6,.ref (.head 6 0) 0 0),(8,.ref (.head 8 0) 0 0),(10,.tree (List.map encHead w0.Seen)),(11,.ref (.head 11 0) 0 0),(12,.ref (.head 12 0) 0 0),(13,.bool true),(14,.int .i64 (IntKind.i64.wrap ((↑k : Int) + 1)))] [(.head 3 0,.box (encRepl r) true),(.head 6 0,.box (.agg [.int .i64 0,.int .i64 0,.nils,.nils]) true),(.head 8 0,.box (.agg [.int .i64 r.ID,.int .i64 to,.sref (.head 8 1) 0 vs.length,.nils]) true),(.head 8 1,.row 5 (List.map encView vs) true true),(.head 11 0,.box (.agg [.int .i64 0,.int .i64 0,.int .i64 0]) true),(.head 12 0,.box (encVersion v) true)]) (by kernel_rfl) (fun (p : Nat × Version) => ⟨[(2,.int .i64 batch),(3,.ref (.head 3 0) 0 0),(6,.ref (.head 6 0) 0 0),(8,.ref (.head 8 0) 0 0),(10,.tree (w0.Seen.map encHead)),(11,.ref (.head 11 0) 0 0),(12,.ref (.head 12 0) 0 0),(13,.bool true),(14,.int .i64 p.1)],[(.head 3 0,.box (encRepl r) true),(.head 6 0,.box (.agg [.int .i64 0,.int .i64 0,.nils,.nils]) true),(.head 8 0,.box (.agg [.int .i64 r.ID,.int .i64 to,.sref (.head 8 1) 0 vs.length,.nils]) true),(.head 8 1,.row 5 (vs.map encView) true true),(.head 11 0,.box (.agg [.int .i64 0,.int .i64 0,.int .i64 0]) true),(.head 12 0,.box (encVersion p.2) true)]⟩) (fun p => p.1 ≤ r.Held.length ∧ (r.Held.take p.1).foldl (bestStep w0.Seen (⟨0,0,0⟩ : Stamp)) none = some p.2) (fun p => r.Held.length - p.1) (k + 1,v) (by (simp [encVersion,encRepl,encStamp, *]; done)) ?_ ?_
                  · exact ⟨by dsimp only; omega,hfs⟩
                  · rintro ⟨m,best⟩ hM againB
                    obtain ⟨m1,m3⟩ := hM
                    simp only at m1 m3
                    by_cases hml : m < r.Held.length
                    · obtain ⟨u,hu⟩ : ∃ u,r.Held[m]? = some u := ⟨r.Held[m],by simp⟩
                      have hfu := fold_succ (seen := w0.Seen) (last := (⟨0,0,0⟩ : Stamp)) hu none
                      rw [m3] at hfu
                      by_cases hc : 0 < u.S.cmp (headAt w0.Seen u.Item) ∧ 0 < u.S.cmp (⟨0,0,0⟩ : Stamp)
                      · have hc1 := hc.1
                        have hc2 := hc.2
                        by_cases hd : u.S.cmp best.S < 0
                        · rw [step_less hc1 hc2 hd] at hfu
                          refine (.el encVersion hml (.T (.eh encVersion hu (.c (@Tryz.c33 (w0.Seen) (u.Item) ‹_›) (.c (@Tryz.c32 (u.S) (headAt w0.Seen u.Item)) (.it hc1 (.it hc1 (.it hc1 (.it hc1 (.c (@Tryz.c32 (u.S) (Stamp.mk (0 : Int) (0 : Int) (0 : Int))) (.it hc1 (.it hc1 (.it hc2 (.it hc2 (.it hc2 (.F (.F (.F (.F (.F (.c (@Tryz.c32 (u.S) (best.S)) (.F (.it hc2 (.F (.it hc2 (.it hd (have _w75 := wI64' ((↑m : Int) + (1 : Int)); .A (St.mk [(2,.int .i64 batch),(3,.ref (.head 3 0) 0 0),(6,.ref (.head 6 0) 0 0),(8,.ref (.head 8 0) 0 0),(10,.tree (List.map encHead w0.Seen)),(11,.ref (.head 11 0) 0 0),(12,.ref (.head 12 0) 0 0),(13,.bool true),(14,.int .i64 (IntKind.i64.wrap ((↑m : Int) + 1)))] [(.head 3 0,.box (encRepl r) true),(.head 6 0,.box (.agg [.int .i64 0,.int .i64 0,.nils,.nils]) true),(.head 8 0,.box (.agg [.int .i64 r.ID,.int .i64 to,.sref (.head 8 1) 0 vs.length,.nils]) true),(.head 8 1,.row 5 (List.map encView vs) true true),(.head 11 0,.box (.agg [.int .i64 0,.int .i64 0,.int .i64 0]) true),(.head 12 0,.box (encVersion u) true)]) (by simp [encVersion,encRepl,_w75]) (againB ((m + (1 : Nat),Version.mk u.Item (Stamp.mk u.2.L u.2.R u.2.N) u.Dead u.Attrs u.Tag u.Body)) ⟨(by dsimp only; omega),(by dsimp only; omega)⟩ (by dsimp only; omega)))))))))))))))))))))))))))))
                        · rw [step_more hd] at hfu
                          refine (.el encVersion hml (.T (.eh encVersion hu (.c (@Tryz.c33 (w0.Seen) (u.Item) ‹_›) (.c (@Tryz.c32 (u.S) (headAt w0.Seen u.Item)) (.it hc1 (.it hc1 (.it hc1 (.it hc1 (.c (@Tryz.c32 (u.S) (Stamp.mk (0 : Int) (0 : Int) (0 : Int))) (.it hc1 (.it hc1 (.it hc2 (.it hc2 (.it hc2 (.F (.F (.F (.F (.F (.c (@Tryz.c32 (u.S) (best.S)) (.F (.it hc2 (.F (.it hc2 (.iF hd (have _w75 := wI64' ((↑m : Int) + (1 : Int)); .A (St.mk [(2,.int .i64 batch),(3,.ref (.head 3 0) 0 0),(6,.ref (.head 6 0) 0 0),(8,.ref (.head 8 0) 0 0),(10,.tree (List.map encHead w0.Seen)),(11,.ref (.head 11 0) 0 0),(12,.ref (.head 12 0) 0 0),(13,.bool true),(14,.int .i64 (IntKind.i64.wrap ((↑m : Int) + 1)))] [(.head 3 0,.box (encRepl r) true),(.head 6 0,.box (.agg [.int .i64 0,.int .i64 0,.nils,.nils]) true),(.head 8 0,.box (.agg [.int .i64 r.ID,.int .i64 to,.sref (.head 8 1) 0 vs.length,.nils]) true),(.head 8 1,.row 5 (List.map encView vs) true true),(.head 11 0,.box (.agg [.int .i64 0,.int .i64 0,.int .i64 0]) true),(.head 12 0,.box (encVersion best) true)]) (by simp [encVersion,encRepl,_w75]) (againB ((m + (1 : Nat),Version.mk best.Item (Stamp.mk best.2.L best.2.R best.2.N) best.Dead best.Attrs best.Tag best.Body)) ⟨(by dsimp only; omega),(by dsimp only; omega)⟩ (by dsimp only; omega)))))))))))))))))))))))))))))
                      · rw [step_none hc] at hfu
                        refine (.el encVersion hml (.T (.eh encVersion hu (.c (@Tryz.c33 (w0.Seen) (u.Item) ‹_›) (.c (@Tryz.c32 (u.S) (headAt w0.Seen u.Item)) (.i (0 < u.S.cmp (headAt w0.Seen u.Item)) (fun _h72 => .it _h72 (.it _h72 (.it _h72 (.c (@Tryz.c32 (u.S) (Stamp.mk (0 : Int) (0 : Int) (0 : Int))) (.it _h72 (.it _h72 (.i (0 < u.S.cmp (Stamp.mk 0 0 0)) (fun _h73 => False.elim (by omega)) (fun _h73 => .iF _h73 (.iF _h73 (.iF _h73 (.iF _h73 (.F (have _w74 := wI64' ((↑m : Int) + (1 : Int)); .A (St.mk [(2,.int .i64 batch),(3,.ref (.head 3 0) 0 0),(6,.ref (.head 6 0) 0 0),(8,.ref (.head 8 0) 0 0),(10,.tree (List.map encHead w0.Seen)),(11,.ref (.head 11 0) 0 0),(12,.ref (.head 12 0) 0 0),(13,.bool true),(14,.int .i64 (IntKind.i64.wrap ((↑m : Int) + 1)))] [(.head 3 0,.box (encRepl r) true),(.head 6 0,.box (.agg [.int .i64 0,.int .i64 0,.nils,.nils]) true),(.head 8 0,.box (.agg [.int .i64 r.ID,.int .i64 to,.sref (.head 8 1) 0 vs.length,.nils]) true),(.head 8 1,.row 5 (List.map encView vs) true true),(.head 11 0,.box (.agg [.int .i64 0,.int .i64 0,.int .i64 0]) true),(.head 12 0,.box (encVersion best) true)]) (by simp [encVersion,encRepl,_w74]) (againB ((m + (1 : Nat),Version.mk best.Item (Stamp.mk best.2.L best.2.R best.2.N) best.Dead best.Attrs best.Tag best.Body)) ⟨(by dsimp only; omega),(by dsimp only; omega)⟩ (by dsimp only; omega))))))))))))))) (fun _h72 => .iF _h72 (.iF _h72 (.iF _h72 (.iF _h72 (.iF _h72 (.F (.F (.F (.F (.F (.F (have _w75 := wI64' ((↑m : Int) + (1 : Int)); .A (St.mk [(2,.int .i64 batch),(3,.ref (.head 3 0) 0 0),(6,.ref (.head 6 0) 0 0),(8,.ref (.head 8 0) 0 0),(10,.tree (List.map encHead w0.Seen)),(11,.ref (.head 11 0) 0 0),(12,.ref (.head 12 0) 0 0),(13,.bool true),(14,.int .i64 (IntKind.i64.wrap ((↑m : Int) + 1)))] [(.head 3 0,.box (encRepl r) true),(.head 6 0,.box (.agg [.int .i64 0,.int .i64 0,.nils,.nils]) true),(.head 8 0,.box (.agg [.int .i64 r.ID,.int .i64 to,.sref (.head 8 1) 0 vs.length,.nils]) true),(.head 8 1,.row 5 (List.map encView vs) true true),(.head 11 0,.box (.agg [.int .i64 0,.int .i64 0,.int .i64 0]) true),(.head 12 0,.box (encVersion best) true)]) (by simp [encVersion,encRepl,_w75]) (againB ((m + (1 : Nat),Version.mk best.Item (Stamp.mk best.2.L best.2.R best.2.N) best.Dead best.Attrs best.Tag best.Body)) ⟨(by dsimp only; omega),(by dsimp only; omega)⟩ (by dsimp only; omega))))))))))))))))))))
                    · rw [List.take_of_length_le (by omega)] at m3
                      have hq := batch_some m3 (batch.toNat - 1)
                      rw [show batch.toNat - 1 + 1 = batch.toNat by omega] at hq
                      refine (.en encVersion hml (.F (.T ?_)))
                      refine Sat.pLoop 11 (St.mk [(2,.int .i64 batch),(3,.ref (.head 3 0) 0 0),(6,.ref (.head 6 0) 0 0),(8,.ref (.head 8 0) 0 0),(10,.tree (List.map encHead w0.Seen)),(11,.ref (.head 11 0) 0 0)] [(.head 3 0,.box (encRepl r) true),(.head 6 0,.box (.agg [.int .i64 0,.int .i64 0,.nils,.nils]) true),(.head 8 0,.box (.agg [.int .i64 r.ID,.int .i64 to,.sref (.head 8 1) 0 vs.length,.sref (.head 8 2) 0 1]) true),(.head 8 1,.row 5 (List.map encView vs) true true),(.head 8 2,.row 8 [encVersion best] true true),(.head 11 0,.box (encStamp best.S) true)]) (by kernel_rfl) (fun (p : List Version × Stamp) => ⟨[(2,.int .i64 batch),(3,.ref (.head 3 0) 0 0),(6,.ref (.head 6 0) 0 0),(8,.ref (.head 8 0) 0 0),(10,.tree (w0.Seen.map encHead)),(11,.ref (.head 11 0) 0 0)],[(.head 3 0,.box (encRepl r) true),(.head 6 0,.box (.agg [.int .i64 0,.int .i64 0,.nils,.nils]) true),(.head 8 0,.box (.agg [.int .i64 r.ID,.int .i64 to,.sref (.head 8 1) 0 vs.length,.sref (.head 8 2) 0 p.1.length]) true),(.head 8 1,.row 5 (vs.map encView) true true),(.head 8 2,.row 8 (p.1.map encVersion) true true),(.head 11 0,.box (encStamp p.2) true)]⟩) (fun p => (p.1.length : Int) ≤ batch ∧ p.1 ++ batchOf w0.Seen r.Held (batch.toNat - p.1.length) p.2 = batchOf w0.Seen r.Held batch.toNat ⟨0,0,0⟩) (fun p => 4 - p.1.length) ([best],best.S) rfl ?_ ?_
                      · exact ⟨by simp; omega,by rw [hq]; simp⟩
                      · rintro ⟨bs,last⟩ hQ againC
                        obtain ⟨q1,q2⟩ := hQ
                        simp only at q1 q2
                        by_cases hfull : (bs.length : Int) < batch
                        · refine (.it hfull ?_)
                          refine Sat.pLoop 14 (St.mk [(2,.int .i64 batch),(3,.ref (.head 3 0) 0 0),(6,.ref (.head 6 0) 0 0),(8,.ref (.head 8 0) 0 0),(10,.tree (List.map encHead w0.Seen)),(11,.ref (.head 11 0) 0 0),(12,.ref (.head 12 0) 0 0),(13,.bool false),(14,.int .i64 0)] [(.head 3 0,.box (encRepl r) true),(.head 6 0,.box (.agg [.int .i64 0,.int .i64 0,.nils,.nils]) true),(.head 8 0,.box (.agg [.int .i64 r.ID,.int .i64 to,.sref (.head 8 1) 0 vs.length,.sref (.head 8 2) 0 bs.length]) true),(.head 8 1,.row 5 (List.map encView vs) true true),(.head 8 2,.row 8 (List.map encVersion bs) true true),(.head 11 0,.box (encStamp last) true),(.head 12 0,.box (.agg [.int .i64 0,.int .i64 0,.int .i64 0,.int .i64 0,.bool false,.nils,.str [],.str []]) true)]) (by kernel_rfl) (fun (k : Nat) => ⟨[(2,.int .i64 batch),(3,.ref (.head 3 0) 0 0),(6,.ref (.head 6 0) 0 0),(8,.ref (.head 8 0) 0 0),(10,.tree (w0.Seen.map encHead)),(11,.ref (.head 11 0) 0 0),(12,.ref (.head 12 0) 0 0),(13,.bool false),(14,.int .i64 k)],[(.head 3 0,.box (encRepl r) true),(.head 6 0,.box (.agg [.int .i64 0,.int .i64 0,.nils,.nils]) true),(.head 8 0,.box (.agg [.int .i64 r.ID,.int .i64 to,.sref (.head 8 1) 0 vs.length,.sref (.head 8 2) 0 bs.length]) true),(.head 8 1,.row 5 (vs.map encView) true true),(.head 8 2,.row 8 (bs.map encVersion) true true),(.head 11 0,.box (encStamp last) true),(.head 12 0,.box (.agg [.int .i64 0,.int .i64 0,.int .i64 0,.int .i64 0,.bool false,.nils,.str [],.str []]) true)]⟩) (fun k => k ≤ r.Held.length ∧ (r.Held.take k).foldl (bestStep w0.Seen last) none = none) (fun k => r.Held.length - k) 0 rfl ?_ ?_
                          · exact ⟨by omega,by simp⟩
                          · rintro k ⟨hk,hkn⟩ againA
                            by_cases hkl : k < r.Held.length
                            · obtain ⟨v,hv⟩ : ∃ v,r.Held[k]? = some v := ⟨r.Held[k],by simp⟩
                              have hfs := fold_succ (seen := w0.Seen) (last := last) hv none
                              rw [hkn] at hfs
                              by_cases hb : 0 < v.S.cmp (headAt w0.Seen v.Item) ∧ 0 < v.S.cmp last
                              · have hb1 := hb.1
                                have hb2 := hb.2
                                rw [step_first hb1 hb2] at hfs
                                refine (.el encVersion hkl (.T (.eh encVersion hv (.c (@Tryz.c33 (w0.Seen) (v.Item) ‹_›) (.c (@Tryz.c32 (v.S) (headAt w0.Seen v.Item)) (.it hb1 (.it hb1 (.it hb1 (.it hb1 (.c (@Tryz.c32 (v.S) (last)) (.it hb1 (.it hb1 (.it hb2 (.it hb2 (.it hb2 (.T (.T (.T (.T (.T (.T (.it hb2 (.T (.it hb2 (.T (have _w89 := wI64' ((↑k : Int) + (1 : Int)); ?_))))))))))))))))))))))))))
                                refine Sat.pLoop 14 (St.mk [(2,.int .i64 batch),(3,.ref (.head 3 0) 0 0),(6,.ref (.head 6 0) 0 0),(8,.ref (.head 8 0) 0 0),(10,.tree (List.map encHead w0.Seen)),(11,.ref (.head 11 0) 0 0),(12,.ref (.head 12 0) 0 0),(13,.bool true),(14,.int .i64 (IntKind.i64.wrap ((↑k : Int) + 1)))] [(.head 3 0,.box (encRepl r) true),(.head 6 0,.box (.agg [.int .i64 0,.int .i64 0,.nils,.nils]) true),(.head 8 0,.box (.agg [.int .i64 r.ID,.int .i64 to,.sref (.head 8 1) 0 vs.length,.sref (.head 8 2) 0 bs.length]) true),(.head 8 1,.row 5 (List.map encView vs) true true),(.head 8 2,.row 8 (List.map encVersion bs) true true),(.head 11 0,.box (encStamp last) true),(.head 12 0,.box (encVersion v) true)]) (by kernel_rfl) (fun (p : Nat × Version) => ⟨[(2,.int .i64 batch),(3,.ref (.head 3 0) 0 0),(6,.ref (.head 6 0) 0 0),(8,.ref (.head 8 0) 0 0),(10,.tree (w0.Seen.map encHead)),(11,.ref (.head 11 0) 0 0),(12,.ref (.head 12 0) 0 0),(13,.bool true),(14,.int .i64 p.1)],[(.head 3 0,.box (encRepl r) true),(.head 6 0,.box (.agg [.int .i64 0,.int .i64 0,.nils,.nils]) true),(.head 8 0,.box (.agg [.int .i64 r.ID,.int .i64 to,.sref (.head 8 1) 0 vs.length,.sref (.head 8 2) 0 bs.length]) true),(.head 8 1,.row 5 (vs.map encView) true true),(.head 8 2,.row 8 (bs.map encVersion) true true),(.head 11 0,.box (encStamp last) true),(.head 12 0,.box (encVersion p.2) true)]⟩) (fun p => p.1 ≤ r.Held.length ∧ (r.Held.take p.1).foldl (bestStep w0.Seen last) none = some p.2) (fun p => r.Held.length - p.1) (k + 1,v) (by (simp [encVersion,encRepl,encStamp, *]; done)) ?_ ?_
                                · exact ⟨by dsimp only; omega,hfs⟩
                                · rintro ⟨m,best⟩ hM againB
                                  obtain ⟨m1,m3⟩ := hM
                                  simp only at m1 m3
                                  by_cases hml : m < r.Held.length
                                  · obtain ⟨u,hu⟩ : ∃ u,r.Held[m]? = some u := ⟨r.Held[m],by simp⟩
                                    have hfu := fold_succ (seen := w0.Seen) (last := last) hu none
                                    rw [m3] at hfu
                                    by_cases hc : 0 < u.S.cmp (headAt w0.Seen u.Item) ∧ 0 < u.S.cmp last
                                    · have hc1 := hc.1
                                      have hc2 := hc.2
                                      by_cases hd : u.S.cmp best.S < 0
                                      · rw [step_less hc1 hc2 hd] at hfu
                                        refine (.el encVersion hml (.T (.eh encVersion hu (.c (@Tryz.c33 (w0.Seen) (u.Item) ‹_›) (.c (@Tryz.c32 (u.S) (headAt w0.Seen u.Item)) (.it hc1 (.it hc1 (.it hc1 (.it hc1 (.c (@Tryz.c32 (u.S) (last)) (.it hc1 (.it hc1 (.it hc2 (.it hc2 (.it hc2 (.F (.F (.F (.F (.F (.c (@Tryz.c32 (u.S) (best.S)) (.F (.it hc2 (.F (.it hc2 (.it hd (have _w106 := wI64' ((↑m : Int) + (1 : Int)); .A (St.mk [(2,.int .i64 batch),(3,.ref (.head 3 0) 0 0),(6,.ref (.head 6 0) 0 0),(8,.ref (.head 8 0) 0 0),(10,.tree (List.map encHead w0.Seen)),(11,.ref (.head 11 0) 0 0),(12,.ref (.head 12 0) 0 0),(13,.bool true),(14,.int .i64 (IntKind.i64.wrap ((↑m : Int) + 1)))] [(.head 3 0,.box (encRepl r) true),(.head 6 0,.box (.agg [.int .i64 0,.int .i64 0,.nils,.nils]) true),(.head 8 0,.box (.agg [.int .i64 r.ID,.int .i64 to,.sref (.head 8 1) 0 vs.length,.sref (.head 8 2) 0 bs.length]) true),(.head 8 1,.row 5 (List.map encView vs) true true),(.head 8 2,.row 8 (List.map encVersion bs) true true),(.head 11 0,.box (encStamp last) true),(.head 12 0,.box (encVersion u) true)]) (by simp [encStamp,encVersion,encRepl,_w106]) (againB ((m + (1 : Nat),Version.mk u.Item (Stamp.mk u.2.L u.2.R u.2.N) u.Dead u.Attrs u.Tag u.Body)) ⟨(by dsimp only; omega),(by dsimp only; omega)⟩ (by dsimp only; omega)))))))))))))))))))))))))))))
                                      · rw [step_more hd] at hfu
                                        refine (.el encVersion hml (.T (.eh encVersion hu (.c (@Tryz.c33 (w0.Seen) (u.Item) ‹_›) (.c (@Tryz.c32 (u.S) (headAt w0.Seen u.Item)) (.it hc1 (.it hc1 (.it hc1 (.it hc1 (.c (@Tryz.c32 (u.S) (last)) (.it hc1 (.it hc1 (.it hc2 (.it hc2 (.it hc2 (.F (.F (.F (.F (.F (.c (@Tryz.c32 (u.S) (best.S)) (.F (.it hc2 (.F (.it hc2 (.iF hd (have _w106 := wI64' ((↑m : Int) + (1 : Int)); .A (St.mk [(2,.int .i64 batch),(3,.ref (.head 3 0) 0 0),(6,.ref (.head 6 0) 0 0),(8,.ref (.head 8 0) 0 0),(10,.tree (List.map encHead w0.Seen)),(11,.ref (.head 11 0) 0 0),(12,.ref (.head 12 0) 0 0),(13,.bool true),(14,.int .i64 (IntKind.i64.wrap ((↑m : Int) + 1)))] [(.head 3 0,.box (encRepl r) true),(.head 6 0,.box (.agg [.int .i64 0,.int .i64 0,.nils,.nils]) true),(.head 8 0,.box (.agg [.int .i64 r.ID,.int .i64 to,.sref (.head 8 1) 0 vs.length,.sref (.head 8 2) 0 bs.length]) true),(.head 8 1,.row 5 (List.map encView vs) true true),(.head 8 2,.row 8 (List.map encVersion bs) true true),(.head 11 0,.box (encStamp last) true),(.head 12 0,.box (encVersion best) true)]) (by simp [encStamp,encVersion,encRepl,_w106]) (againB ((m + (1 : Nat),Version.mk best.Item (Stamp.mk best.2.L best.2.R best.2.N) best.Dead best.Attrs best.Tag best.Body)) ⟨(by dsimp only; omega),(by dsimp only; omega)⟩ (by dsimp only; omega)))))))))))))))))))))))))))))
                                    · rw [step_none hc] at hfu
                                      refine (.el encVersion hml (.T (.eh encVersion hu (.c (@Tryz.c33 (w0.Seen) (u.Item) ‹_›) (.c (@Tryz.c32 (u.S) (headAt w0.Seen u.Item)) (.i (0 < u.S.cmp (headAt w0.Seen u.Item)) (fun _h103 => .it _h103 (.it _h103 (.it _h103 (.c (@Tryz.c32 (u.S) (last)) (.it _h103 (.it _h103 (.i (0 < u.S.cmp last) (fun _h104 => False.elim (by omega)) (fun _h104 => .iF _h104 (.iF _h104 (.iF _h104 (.iF _h104 (.F (have _w105 := wI64' ((↑m : Int) + (1 : Int)); .A (St.mk [(2,.int .i64 batch),(3,.ref (.head 3 0) 0 0),(6,.ref (.head 6 0) 0 0),(8,.ref (.head 8 0) 0 0),(10,.tree (List.map encHead w0.Seen)),(11,.ref (.head 11 0) 0 0),(12,.ref (.head 12 0) 0 0),(13,.bool true),(14,.int .i64 (IntKind.i64.wrap ((↑m : Int) + 1)))] [(.head 3 0,.box (encRepl r) true),(.head 6 0,.box (.agg [.int .i64 0,.int .i64 0,.nils,.nils]) true),(.head 8 0,.box (.agg [.int .i64 r.ID,.int .i64 to,.sref (.head 8 1) 0 vs.length,.sref (.head 8 2) 0 bs.length]) true),(.head 8 1,.row 5 (List.map encView vs) true true),(.head 8 2,.row 8 (List.map encVersion bs) true true),(.head 11 0,.box (encStamp last) true),(.head 12 0,.box (encVersion best) true)]) (by simp [encStamp,encVersion,encRepl,_w105]) (againB ((m + (1 : Nat),Version.mk best.Item (Stamp.mk best.2.L best.2.R best.2.N) best.Dead best.Attrs best.Tag best.Body)) ⟨(by dsimp only; omega),(by dsimp only; omega)⟩ (by dsimp only; omega))))))))))))))) (fun _h103 => .iF _h103 (.iF _h103 (.iF _h103 (.iF _h103 (.iF _h103 (.F (.F (.F (.F (.F (.F (have _w106 := wI64' ((↑m : Int) + (1 : Int)); .A (St.mk [(2,.int .i64 batch),(3,.ref (.head 3 0) 0 0),(6,.ref (.head 6 0) 0 0),(8,.ref (.head 8 0) 0 0),(10,.tree (List.map encHead w0.Seen)),(11,.ref (.head 11 0) 0 0),(12,.ref (.head 12 0) 0 0),(13,.bool true),(14,.int .i64 (IntKind.i64.wrap ((↑m : Int) + 1)))] [(.head 3 0,.box (encRepl r) true),(.head 6 0,.box (.agg [.int .i64 0,.int .i64 0,.nils,.nils]) true),(.head 8 0,.box (.agg [.int .i64 r.ID,.int .i64 to,.sref (.head 8 1) 0 vs.length,.sref (.head 8 2) 0 bs.length]) true),(.head 8 1,.row 5 (List.map encView vs) true true),(.head 8 2,.row 8 (List.map encVersion bs) true true),(.head 11 0,.box (encStamp last) true),(.head 12 0,.box (encVersion best) true)]) (by simp [encStamp,encVersion,encRepl,_w106]) (againB ((m + (1 : Nat),Version.mk best.Item (Stamp.mk best.2.L best.2.R best.2.N) best.Dead best.Attrs best.Tag best.Body)) ⟨(by dsimp only; omega),(by dsimp only; omega)⟩ (by dsimp only; omega))))))))))))))))))))
                                  · rw [List.take_of_length_le (by omega)] at m3
                                    have hq := batch_some m3 (batch.toNat - bs.length - 1)
                                    rw [show batch.toNat - bs.length - 1 + 1 = batch.toNat - bs.length by omega] at hq
                                    have hq3 : bs ++ [best] ++ batchOf w0.Seen r.Held (batch.toNat - (bs.length + 1)) best.S = batchOf w0.Seen r.Held batch.toNat ⟨0,0,0⟩ := by rw [← q2,hq,show batch.toNat - (bs.length + 1) = batch.toNat - bs.length - 1 by omega]; simp
                                    refine (.en encVersion hml (.F (.i ((bs.length + 1) * (96 : Nat) ≤ 140737488355328) (fun _h101 => .k (bs.length = (List.map encVersion bs).length) (True) (by simp only [List.length_map]) (fun _h102 => .A (St.mk [(2,.int .i64 batch),(3,.ref (.head 3 0) 0 0),(6,.ref (.head 6 0) 0 0),(8,.ref (.head 8 0) 0 0),(10,.tree (List.map encHead w0.Seen)),(11,.ref (.head 11 0) 0 0)] [(.head 3 0,.box (encRepl r) true),(.head 6 0,.box (.agg [.int .i64 0,.int .i64 0,.nils,.nils]) true),(.head 8 0,.box (.agg [.int .i64 r.ID,.int .i64 to,.sref (.head 8 1) 0 vs.length,.sref (.head 8 2) 0 (bs.length + 1)]) true),(.head 8 1,.row 5 (List.map encView vs) true true),(.head 8 2,.row 8 (List.map encVersion bs ++ [encVersion best]) true true),(.head 11 0,.box (encStamp best.S) true)]) (by simp [encStamp,encRepl]) (againC ((bs ++ [best],Stamp.mk best.2.L best.2.R best.2.N)) ⟨(by dsimp only; (clear again again2 againA againB againC; (simp; omega))),(by dsimp only; (clear again again2 againA againB againC; (simp only [List.length_append,List.length_cons,List.length_nil]; exact hq3)))⟩ (by dsimp only; (clear again again2 againA againB againC; (simp; omega))))) (fun _h102 => (_h102 trivial).elim)) (fun _h101 => False.elim (by omega)))))
                              · rw [step_none hb] at hfs
                                refine (.el encVersion hkl (.T (.eh encVersion hv (.c (@Tryz.c33 (w0.Seen) (v.Item) ‹_›) (.c (@Tryz.c32 (v.S) (headAt w0.Seen v.Item)) (.i (0 < v.S.cmp (headAt w0.Seen v.Item)) (fun _h87 => .it _h87 (.it _h87 (.it _h87 (.c (@Tryz.c32 (v.S) (last)) (.it _h87 (.it _h87 (.i (0 < v.S.cmp last) (fun _h88 => False.elim (by omega)) (fun _h88 => .iF _h88 (.iF _h88 (.iF _h88 (.iF _h88 (.F (have _w89 := wI64' ((↑k : Int) + (1 : Int)); .A (St.mk [(2,.int .i64 batch),(3,.ref (.head 3 0) 0 0),(6,.ref (.head 6 0) 0 0),(8,.ref (.head 8 0) 0 0),(10,.tree (List.map encHead w0.Seen)),(11,.ref (.head 11 0) 0 0),(12,.ref (.head 12 0) 0 0),(13,.bool false),(14,.int .i64 (IntKind.i64.wrap ((↑k : Int) + 1)))] [(.head 3 0,.box (encRepl r) true),(.head 6 0,.box (.agg [.int .i64 0,.int .i64 0,.nils,.nils]) true),(.head 8 0,.box (.agg [.int .i64 r.ID,.int .i64 to,.sref (.head 8 1) 0 vs.length,.sref (.head 8 2) 0 bs.length]) true),(.head 8 1,.row 5 (List.map encView vs) true true),(.head 8 2,.row 8 (List.map encVersion bs) true true),(.head 11 0,.box (encStamp last) true),(.head 12 0,.box (.agg [.int .i64 0,.int .i64 0,.int .i64 0,.int .i64 0,.bool false,.nils,.str [],.str []]) true)]) (by simp [encStamp,encRepl,_w89]) (againA (k + (1 : Nat)) ⟨(by omega),(by omega)⟩ (by omega))))))))))))))) (fun _h87 => .iF _h87 (.iF _h87 (.iF _h87 (.iF _h87 (.iF _h87 (.F (.F (.F (.F (.F (.F (have _w90 := wI64' ((↑k : Int) + (1 : Int)); .A (St.mk [(2,.int .i64 batch),(3,.ref (.head 3 0) 0 0),(6,.ref (.head 6 0) 0 0),(8,.ref (.head 8 0) 0 0),(10,.tree (List.map encHead w0.Seen)),(11,.ref (.head 11 0) 0 0),(12,.ref (.head 12 0) 0 0),(13,.bool false),(14,.int .i64 (IntKind.i64.wrap ((↑k : Int) + 1)))] [(.head 3 0,.box (encRepl r) true),(.head 6 0,.box (.agg [.int .i64 0,.int .i64 0,.nils,.nils]) true),(.head 8 0,.box (.agg [.int .i64 r.ID,.int .i64 to,.sref (.head 8 1) 0 vs.length,.sref (.head 8 2) 0 bs.length]) true),(.head 8 1,.row 5 (List.map encView vs) true true),(.head 8 2,.row 8 (List.map encVersion bs) true true),(.head 11 0,.box (encStamp last) true),(.head 12 0,.box (.agg [.int .i64 0,.int .i64 0,.int .i64 0,.int .i64 0,.bool false,.nils,.str [],.str []]) true)]) (by simp [encStamp,encRepl,_w90]) (againA (k + (1 : Nat)) ⟨(by omega),(by omega)⟩ (by omega))))))))))))))))))))
                            · rw [List.take_of_length_le (by omega)] at hkn
                              have hq : bs = batchOf w0.Seen r.Held batch.toNat ⟨0,0,0⟩ := by rw [← q2,batch_none hkn]; simp
                              rw [← hq]
                              refine (.en encVersion hkl (.T (have _w83 : List.take vs.length (List.map encView vs) = List.map encView vs := List.take_of_length_le (by simp); have _w84 : List.take bs.length (List.map encVersion bs) = List.map encVersion bs := List.take_of_length_le (by simp); .q (Res.mk (AV.tuple [.agg [.int .i64 r.ID,.int .i64 to,.tree (List.take vs.length (List.map encView vs)),.tree (List.take bs.length (List.map encVersion bs))],.bool true]) [] []) (by simp [encGossip,List.take_of_length_le, *]; done))))
                        · have hq4 : bs = batchOf w0.Seen r.Held batch.toNat ⟨0,0,0⟩ := by rw [← q2,show batch.toNat - bs.length = 0 by omega]; simp [batchOf]
                          rw [← hq4]
                          refine (.iF hfull (have _w77 : List.take vs.length (List.map encView vs) = List.map encView vs := List.take_of_length_le (by simp); have _w78 : List.take bs.length (List.map encVersion bs) = List.map encVersion bs := List.take_of_length_le (by simp); .q (Res.mk (AV.tuple [.agg [.int .i64 r.ID,.int .i64 to,.tree (List.take vs.length (List.map encView vs)),.tree (List.take bs.length (List.map encVersion bs))],.bool true]) [] []) (by simp [encGossip,List.take_of_length_le, *]; done)))
                · rw [step_none hb] at hfs
                  refine (.el encVersion hkl (.T (.eh encVersion hv (.c (@Tryz.c33 (w0.Seen) (v.Item) ‹_›) (.c (@Tryz.c32 (v.S) (headAt w0.Seen v.Item)) (.i (0 < v.S.cmp (headAt w0.Seen v.Item)) (fun _h56 => .it _h56 (.it _h56 (.it _h56 (.c (@Tryz.c32 (v.S) (Stamp.mk (0 : Int) (0 : Int) (0 : Int))) (.it _h56 (.it _h56 (.i (0 < v.S.cmp (Stamp.mk 0 0 0)) (fun _h57 => False.elim (by omega)) (fun _h57 => .iF _h57 (.iF _h57 (.iF _h57 (.iF _h57 (.F (have _w58 := wI64' ((↑k : Int) + (1 : Int)); .A (St.mk [(2,.int .i64 batch),(3,.ref (.head 3 0) 0 0),(6,.ref (.head 6 0) 0 0),(8,.ref (.head 8 0) 0 0),(10,.tree (List.map encHead w0.Seen)),(11,.ref (.head 11 0) 0 0),(12,.ref (.head 12 0) 0 0),(13,.bool false),(14,.int .i64 (IntKind.i64.wrap ((↑k : Int) + 1)))] [(.head 3 0,.box (encRepl r) true),(.head 6 0,.box (.agg [.int .i64 0,.int .i64 0,.nils,.nils]) true),(.head 8 0,.box (.agg [.int .i64 r.ID,.int .i64 to,.sref (.head 8 1) 0 vs.length,.nils]) true),(.head 8 1,.row 5 (List.map encView vs) true true),(.head 11 0,.box (.agg [.int .i64 0,.int .i64 0,.int .i64 0]) true),(.head 12 0,.box (.agg [.int .i64 0,.int .i64 0,.int .i64 0,.int .i64 0,.bool false,.nils,.str [],.str []]) true)]) (by simp [encRepl,_w58]) (againA (k + (1 : Nat)) ⟨(by omega),(by omega)⟩ (by omega))))))))))))))) (fun _h56 => .iF _h56 (.iF _h56 (.iF _h56 (.iF _h56 (.iF _h56 (.F (.F (.F (.F (.F (.F (have _w59 := wI64' ((↑k : Int) + (1 : Int)); .A (St.mk [(2,.int .i64 batch),(3,.ref (.head 3 0) 0 0),(6,.ref (.head 6 0) 0 0),(8,.ref (.head 8 0) 0 0),(10,.tree (List.map encHead w0.Seen)),(11,.ref (.head 11 0) 0 0),(12,.ref (.head 12 0) 0 0),(13,.bool false),(14,.int .i64 (IntKind.i64.wrap ((↑k : Int) + 1)))] [(.head 3 0,.box (encRepl r) true),(.head 6 0,.box (.agg [.int .i64 0,.int .i64 0,.nils,.nils]) true),(.head 8 0,.box (.agg [.int .i64 r.ID,.int .i64 to,.sref (.head 8 1) 0 vs.length,.nils]) true),(.head 8 1,.row 5 (List.map encView vs) true true),(.head 11 0,.box (.agg [.int .i64 0,.int .i64 0,.int .i64 0]) true),(.head 12 0,.box (.agg [.int .i64 0,.int .i64 0,.int .i64 0,.int .i64 0,.bool false,.nils,.str [],.str []]) true)]) (by simp [encRepl,_w59]) (againA (k + (1 : Nat)) ⟨(by omega),(by omega)⟩ (by omega))))))))))))))))))))
              · rw [List.take_of_length_le (by omega)] at hkn
                have hq : batchOf w0.Seen r.Held batch.toNat ⟨0,0,0⟩ = [] := batch_none hkn _
                rw [hq]
                refine (.en encVersion hkl (.T (have _w52 : List.take vs.length (List.map encView vs) = List.map encView vs := List.take_of_length_le (by simp); .q (Res.mk (AV.tuple [.agg [.int .i64 r.ID,.int .i64 to,.tree (List.take vs.length (List.map encView vs)),.tree []],.bool true]) [] []) (by simp [encGossip,List.take_of_length_le, *]; done))))
      · rw [if_neg hxr] at hfx
        refine (.el encView hil (.T (.eh encView hx (.iF hxr (have _w32 := wI64' ((↑i : Int) + (1 : Int)); .A (St.mk [(1,.int .i64 to),(2,.int .i64 batch),(3,.ref (.head 3 0) 0 0),(6,.ref (.head 6 0) 0 0),(8,.ref (.head 8 0) 0 0),(9,.int .i64 (IntKind.i64.wrap ((↑i : Int) + 1)))] [(.head 3 0,.box (encRepl r) true),(.head 6 0,.box (.agg [.int .i64 0,.int .i64 0,.nils,.nils]) true),(.head 8 0,.box (.agg [.int .i64 r.ID,.int .i64 to,.nils,.nils]) true)]) (by simp [encRepl,_w32]) (again (i + (1 : Nat)) ⟨(by omega),(by omega)⟩ (by omega)))))))
    · exfalso
      obtain ⟨w,hw1,hw2⟩ := hr
      rw [List.take_of_length_le (by omega)] at hn
      have : w ∈ r.Views.filter (fun v => decide (0 < v.Rev)) := List.mem_filter.2 ⟨hw1,by simpa using hw2⟩
      rw [hn] at this; cases this
end Go.Ab.Tryz

namespace Go.Ab.Tryz
open Go
set_option maxRecDepth 100000
set_option maxHeartbeats 4000000
theorem same_gossip (g : Gossip) (h1 : g.Views.length ≤ 1000) (h2 : g.Batch.length ≤ 1000) (hv : ∀ v ∈ g.Views,v.Seen.length ≤ 100000 ∧ v.Epochs.length ≤ 100000) (hb : ∀ v ∈ g.Batch,v.Attrs.length ≤ 100000) : X.call 29 [encGossip g,encGossip g] [] ⟨.bool true,[],[]⟩ := by
  have c1 := c66 g.Views g.Views (by omega) hv
  rw [decide_eq_true rfl] at c1
  refine spec_of ok Go.Proofs.Tryz.func29 ok29 ?_
  refine (.k (g.From = g.From) (True) (by simp only []) (fun _h8 => .et (g.From = g.From) (by simp only []) _h8 (.et (g.From = g.From) (by simp only []) _h8 (.et (g.From = g.From) (by simp only []) _h8 (.et (g.From = g.From) (by simp only []) _h8 (.et (g.From = g.From) (by simp only []) _h8 (.et (g.To = g.To) (by simp only []) _h8 (.et (g.To = g.To) (by simp only []) _h8 (.et (g.To = g.To) (by simp only []) _h8 (.et (g.To = g.To) (by simp only []) _h8 (.et (g.To = g.To) (by simp only []) _h8 (.c (@c1) (.et (g.To = g.To) (by simp only []) _h8 (.T (.T (.T (.T (.T (.c (@Tryz.c67 (g.Batch) (g.Batch) (by omega) ‹_›) (.T (.q (Res.mk (.bool (decide (g.Batch = g.Batch))) [] []) (by (clear c1; simp_all)))))))))))))))))))))) (fun _h8 => (_h8 trivial).elim))
theorem ref_no (r : Repl) (to batch : Int) (h : ¬ (to ≠ r.ID ∧ 1 ≤ to ∧ to ≤ r.Size ∧ 1 ≤ batch ∧ batch ≤ 4)) : X.call 28 [encRepl r,.int .i64 to,.int .i64 batch] [] ⟨.tuple [encGossip ⟨0,0,[],[]⟩,.bool false],[],[]⟩ := by
  refine spec_of ok Go.Proofs.Tryz.func28 ok28 ?_
  refine (.i (to < 1) (fun _h5 => .it _h5 (.it _h5 (.it _h5 (.it _h5 (.T (.T (.T (.T (.T (.T (.T (.T (.T (.T (.T (.T .r)))))))))))))))) (fun _h5 => .iF _h5 (.iF _h5 (.iF _h5 (.iF _h5 (.i (r.Size < to) (fun _h6 => .it _h6 (.it _h6 (.it _h6 (.it _h6 (.T (.T (.T (.T (.T (.T (.T .r))))))))))) (fun _h6 => .iF _h6 (.iF _h6 (.iF _h6 (.iF _h6 (.i (to = r.ID) (fun _h7 => .it _h7 (.it _h7 (.T (.T (.T (.T .r)))))) (fun _h7 => .iF _h7 (.iF _h7 (.i (batch < 1) (fun _h8 => .it _h8 (.it _h8 (.T .r))) (fun _h8 => .iF _h8 (.iF _h8 (.i (4 < batch) (fun _h9 => .r) (fun _h9 => False.elim (by omega)))))))))))))))))))
theorem strict {o : List Version} (hs : SortedTo o o.length) (ha : ∀ v ∈ o,∀ w ∈ o,v.S = w.S → v = w) (hn : o.Nodup) : o.Pairwise (fun a b => 0 < b.S.cmp a.S) := by
  rw [List.pairwise_iff_getElem]
  intro i j hi hj hij
  have h1 := hs i j o[i] o[j] hij hj (by simp) (by simp)
  have h2 : o[j].S.cmp o[i].S ≠ 0 := fun e => by
    have e1 := (cmp_zero _ _).1 e
    have e2 := ha _ (List.getElem_mem hj) _ (List.getElem_mem hi) e1
    exact (List.pairwise_iff_getElem.1 hn i j hi hj hij) e2.symm
  omega
theorem both_ex {size k : Nat} {B : Int} {m : Mesh} {r : Repl} (h : m.Ok size B k) (hr : r ∈ m.Repls) (to batch : Int) : ∃ (g : Gossip) (ok : Bool),X.call 27 [encRepl r,.int .i64 to,.int .i64 batch] [] ⟨.tuple [encGossip g,.bool ok],[],[]⟩ ∧ X.call 28 [encRepl r,.int .i64 to,.int .i64 batch] [] ⟨.tuple [encGossip g,.bool ok],[],[]⟩ ∧ X.call 29 [encGossip g,encGossip g] [] ⟨.bool true,[],[]⟩ := by
  have ho := h.mem hr
  have hi := h.ri r hr
  have hvl := ho.vl
  have hsz := ho.sz
  have hs5 := ho.s5
  have hhl := ho.hm.len
  have hva : ∀ v ∈ r.Views,v.Seen.length ≤ 100000 ∧ v.Epochs.length ≤ 100000 := fun v hv => by
    have o := ho.vs v hv
    have := headsMay_len (by omega) o.s
    refine ⟨by omega, ?_⟩
    by_cases e : v.Rev = 0
    · rw [o.e0 e]; simp
    · rw [o.el e]; omega
  by_cases hc : to ≠ r.ID ∧ 1 ≤ to ∧ to ≤ r.Size ∧ 1 ≤ batch ∧ batch ≤ 4
  · obtain ⟨o,w,cT,hw,hwr,hp,hso⟩ := to_yes r size B ho to batch hc
    have hw0 : r.Views[(to - 1).toNat]? = some w := by
      obtain ⟨i,hi2⟩ := List.getElem?_of_mem hw
      have := ho.vr i w hi2
      rw [show (to - 1).toNat = i by omega]; exact hi2
    have hsub : ∀ v ∈ o,v ∈ r.Held := fun v hv => (List.mem_filter.1 (hp.mem_iff.1 hv)).1
    have hnd : r.Held.Nodup := ho.hm.ord.imp (fun hab e => by rw [e] at hab; omega)
    have hst := strict hso (fun v hv w hw e => h.apart (hi.held v (hsub v hv)) (hi.held w (hsub w hw)) e) (hp.nodup_iff.2 (hnd.filter _))
    have hpos : (o.filter fun v => decide (0 < v.S.cmp (⟨0,0,0⟩ : Stamp))) = o := List.filter_eq_self.2 fun v hv => by
      have f := Version.may_fit (ho.hm.may v (hsub v hv))
      have := f.l0
      simp only [decide_eq_true_eq]
      rw [cmp_pos]
      unfold Stamp.lt
      simp only; omega
    have hb := batchOf_sorted hp hst batch.toNat ⟨0,0,0⟩
    rw [hpos] at hb
    have htk : o.take (if batch < (o.length : Int) then batch else (o.length : Int)).toNat = o.take batch.toNat := by
      split
      · rfl
      · rw [List.take_of_length_le (by omega),List.take_of_length_le (by omega)]
    rw [htk,← hb] at cT
    have cE := to_exact r to batch (by omega) (by omega) (fun w hw => (hva w hw).1) (by omega) ⟨r.own,ho.own_mem,by have := ho.o1; omega⟩ hc.2.1 hc.2.2.1 hc.1 hc.2.2.2.1 hc.2.2.2.2 hw0
    refine ⟨_,true,cT,cE,same_gossip _ ?_ ?_ ?_ ?_⟩
    · exact Nat.le_trans (List.length_filter_le _ _) (by omega)
    · rw [hb]; exact Nat.le_trans (by simp only [List.length_take]; omega) (show batch.toNat ≤ 1000 by omega)
    · exact fun v hv => hva v (List.mem_filter.1 hv).1
    · rw [hb]; exact fun v hv => by have := (Version.may_fit (ho.hm.may v (hsub v (List.mem_of_mem_take hv)))).al; omega
  · exact ⟨_,false,to_no r to batch hc,ref_no r to batch hc,same_gossip _ (by simp) (by simp) (fun v hv => by cases hv) (fun v hv => by cases hv)⟩
theorem c6 (l : List UInt8) (to batch : Int) : X.call 6 [.tree (l.map encB),.int .i64 to,.int .i64 batch] [] ⟨.bool true,[],[]⟩ := by
  by_cases hl : l.length ≤ 150
  · obtain ⟨r,q,m,size,cR,h,hr,-⟩ := repl_ex ⟨l,0⟩ (by simp only; omega) 50 (by omega)
    obtain ⟨g1,ok1,d1,d2,d3⟩ := both_ex h hr to batch
    have both : ∀ a b : Int,∃ (g : Gossip) (ok : Bool),X.call 27 [encRepl r,.int .i64 a,.int .i64 b] [] ⟨.tuple [encGossip g,.bool ok],[],[]⟩ ∧ X.call 28 [encRepl r,.int .i64 a,.int .i64 b] [] ⟨.tuple [encGossip g,.bool ok],[],[]⟩ ∧ X.call 29 [encGossip g,encGossip g] [] ⟨.bool true,[],[]⟩ := both_ex h hr
    clear h hr
    refine spec_of ok Go.Proofs.Tryz.func6 ok6 ?_
    refine (.c (@Tryz.c25) (.F (.k (150 < (↑(List.map encB l).length : Int)) (150 < l.length) (by simp only [List.length_map,ciLt]) (fun _h18 => False.elim (by omega)) (fun _h18 => .c (@Tryz.c10 (l)) (.c (@cR) ?_)))))
    refine Sat.pLoop 7 (St.mk [(1,.int .i64 to),(2,.int .i64 batch),(7,.ref (.head 7 0) 0 0),(8,.int .i64 (-1 : Int))] [(.head 7 0,.box (encRepl r) true)]) (by kernel_rfl) (fun (i : Int) => ⟨[(1,.int .i64 to),(2,.int .i64 batch),(7,.ref (.head 7 0) 0 0),(8,.int .i64 i)],[(.head 7 0,.box (encRepl r) true)]⟩) (fun i => -1 ≤ i ∧ i ≤ 7) (fun i => (7 - i).toNat) (-1) rfl ?_ ?_
    · omega
    · rintro i ⟨i1,i2⟩ again
      by_cases hi7 : i < 7
      · refine (.it hi7 ?_)
        refine Sat.pLoop 10 (St.mk [(1,.int .i64 to),(2,.int .i64 batch),(7,.ref (.head 7 0) 0 0),(8,.int .i64 i),(9,.int .i64 0)] [(.head 7 0,.box (encRepl r) true)]) (by kernel_rfl) (fun (b : Int) => ⟨[(1,.int .i64 to),(2,.int .i64 batch),(7,.ref (.head 7 0) 0 0),(8,.int .i64 i),(9,.int .i64 b)],[(.head 7 0,.box (encRepl r) true)]⟩) (fun b => 0 ≤ b ∧ b ≤ 6) (fun b => (6 - b).toNat) 0 rfl ?_ ?_
        · omega
        · rintro b ⟨j1,j2⟩ again2
          obtain ⟨g2,ok2,e1,e2,e3⟩ := both i b
          by_cases hn : i < 0
          · cases ok1
            · refine (.i (b < 6) (fun _h36 => .it hn (.c (@d1) (.c (@d2) (.F (.F (.F (.c (@d3) (.F (.F (.F (have _w37 := wI64' (b + (1 : Int)); .A (St.mk [(1,.int .i64 to),(2,.int .i64 batch),(7,.ref (.head 7 0) 0 0),(8,.int .i64 i),(9,.int .i64 (IntKind.i64.wrap (b + 1)))] [(.head 7 0,.box (encRepl r) true)]) (by simp [encRepl,_w37]) (again2 (b + (1 : Int)) (by omega) (by omega))))))))))))) (fun _h36 => have _w38 := wI64' (i + (1 : Int)); .A (St.mk [(1,.int .i64 to),(2,.int .i64 batch),(7,.ref (.head 7 0) 0 0),(8,.int .i64 (IntKind.i64.wrap (i + 1)))] [(.head 7 0,.box (encRepl r) true)]) (by simp [encRepl,_w38]) (again (i + (1 : Int)) (by omega) (by omega))))
            · refine (.i (b < 6) (fun _h36 => .it hn (.c (@d1) (.c (@d2) (.F (.F (.F (.c (@d3) (.F (.F (.F (have _w37 := wI64' (b + (1 : Int)); .A (St.mk [(1,.int .i64 to),(2,.int .i64 batch),(7,.ref (.head 7 0) 0 0),(8,.int .i64 i),(9,.int .i64 (IntKind.i64.wrap (b + 1)))] [(.head 7 0,.box (encRepl r) true)]) (by simp [encRepl,_w37]) (again2 (b + (1 : Int)) (by omega) (by omega))))))))))))) (fun _h36 => have _w38 := wI64' (i + (1 : Int)); .A (St.mk [(1,.int .i64 to),(2,.int .i64 batch),(7,.ref (.head 7 0) 0 0),(8,.int .i64 (IntKind.i64.wrap (i + 1)))] [(.head 7 0,.box (encRepl r) true)]) (by simp [encRepl,_w38]) (again (i + (1 : Int)) (by omega) (by omega))))
          · cases ok2
            · refine (.i (b < 6) (fun _h36 => .iF hn (.c (@e1) (.c (@e2) (.F (.F (.F (.c (@e3) (.F (.F (.F (have _w37 := wI64' (b + (1 : Int)); .A (St.mk [(1,.int .i64 to),(2,.int .i64 batch),(7,.ref (.head 7 0) 0 0),(8,.int .i64 i),(9,.int .i64 (IntKind.i64.wrap (b + 1)))] [(.head 7 0,.box (encRepl r) true)]) (by simp [encRepl,_w37]) (again2 (b + (1 : Int)) (by omega) (by omega))))))))))))) (fun _h36 => have _w38 := wI64' (i + (1 : Int)); .A (St.mk [(1,.int .i64 to),(2,.int .i64 batch),(7,.ref (.head 7 0) 0 0),(8,.int .i64 (IntKind.i64.wrap (i + 1)))] [(.head 7 0,.box (encRepl r) true)]) (by simp [encRepl,_w38]) (again (i + (1 : Int)) (by omega) (by omega))))
            · refine (.i (b < 6) (fun _h36 => .iF hn (.c (@e1) (.c (@e2) (.F (.F (.F (.c (@e3) (.F (.F (.F (have _w37 := wI64' (b + (1 : Int)); .A (St.mk [(1,.int .i64 to),(2,.int .i64 batch),(7,.ref (.head 7 0) 0 0),(8,.int .i64 i),(9,.int .i64 (IntKind.i64.wrap (b + 1)))] [(.head 7 0,.box (encRepl r) true)]) (by simp [encRepl,_w37]) (again2 (b + (1 : Int)) (by omega) (by omega))))))))))))) (fun _h36 => have _w38 := wI64' (i + (1 : Int)); .A (St.mk [(1,.int .i64 to),(2,.int .i64 batch),(7,.ref (.head 7 0) 0 0),(8,.int .i64 (IntKind.i64.wrap (i + 1)))] [(.head 7 0,.box (encRepl r) true)]) (by simp [encRepl,_w38]) (again (i + (1 : Int)) (by omega) (by omega))))
      · refine (.iF hi7 .r)
  · refine spec_of ok Go.Proofs.Tryz.func6 ok6 ?_
    refine (.c (@Tryz.c25) (.F (.k (150 < (↑(List.map encB l).length : Int)) (150 < l.length) (by simp only [List.length_map,ciLt]) (fun _h5 => .r) (fun _h5 => False.elim (by omega)))))
theorem law_OfferAll (x0 : List UInt8) (x1 x2 : Int) (_h0 : (∀ x ∈ x0,True) ∧ x0.length ≤ maxLen) (_h1 : okI x1) (_h2 : okI x2) : X.call 6 [.tree (x0.map encB),encI x1,encI x2] [] ⟨.bool true,[],[]⟩ := c6 x0 x1 x2
end Go.Ab.Tryz
