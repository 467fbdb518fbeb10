/- Package cardamomlaw13: all that is known of others is told, and of oneself. -/
import Derived.Test.YtmppanboolejjaaGreatRuns
import Derived.Test.YtmppanboolejjaaGreatOffer4
import Derived.Test.YtmppanboolejjaaGreatRef11d
import Derived.Test.YtmppanboolejjaaGreatLaw13b
namespace Go.Ab.Tryz
open Go
set_option maxRecDepth 100000
set_option maxHeartbeats 4000000
theorem view_may {size : Nat} {B : Int} {w : View} (h : w.Ok size B) (hf : w.Fk) (hB : B ≤ 1000000) (h1 : 1 ≤ w.R) (h2 : w.R ≤ size) (h3 : 0 < w.Rev) : w.may parse size = true := by
  unfold View.may
  have hv1 := h.v1
  rw [if_pos ⟨h1,h2,by omega,by omega⟩,if_neg (by omega)]
  simp only [Bool.and_eq_true,decide_eq_true_eq,List.all_eq_true]
  exact ⟨⟨⟨parse_goodF (hf.f (by omega)),h.s⟩,by rw [h.el (by omega)]⟩,fun e he => by have := h.e e he; omega⟩
theorem views_may {size : Nat} : ∀ {l : List View} {last : Int},(∀ w ∈ l,w.may parse size = true ∧ 0 < w.Rev) → l.Pairwise (fun a b => a.R < b.R) → (∀ w ∈ l,last < w.R) → viewsMay parse size last l = true
  | [],_,_,_,_ => rfl
  | w :: l,last,h1,h2,h3 => by
    obtain ⟨p1,p2⟩ := List.pairwise_cons.1 h2
    have hw := h1 w (List.mem_cons_self ..)
    have hl := h3 w (List.mem_cons_self ..)
    simp only [viewsMay,Bool.and_eq_true,decide_eq_true_eq]
    exact ⟨⟨hw.1,by omega,hl⟩,views_may (fun x hx => h1 x (List.mem_cons_of_mem _ hx)) p2 p1⟩
theorem filter_pos {T : Type} {p : T → Bool} : ∀ {l : List T} {i : Nat} {x : T},l[i]? = some x → p x = true → (l.filter p)[((l.take i).filter p).length]? = some x
  | y :: l,0,x,h,hp => by
    simp only [List.getElem?_cons_zero,Option.some.injEq] at h
    subst h
    simp [hp]
  | y :: l,i + 1,x,h,hp => by
    simp only [List.getElem?_cons_succ] at h
    have ih := filter_pos h hp
    by_cases c : p y = true
    · simp only [List.take_succ_cons,List.filter_cons_of_pos c,List.length_cons,List.getElem?_cons_succ]; exact ih
    · simp only [List.take_succ_cons,List.filter_cons_of_neg c]; exact ih
theorem told_may {size : Nat} {B : Int} {r : Repl} {iss : List Version} (ho : r.Ok size B) (hi : r.In iss) (hB : B ≤ 1000000) {to : Int} (t0 : to ≠ r.ID) (t1 : 1 ≤ to) (t2 : to ≤ size) {seen : List Head} {o : List Version} (hp : o.Perm (newsOf seen r.Held)) : (Gossip.mk r.ID to (r.Views.filter fun v => decide (0 < v.Rev)) (o.take (if (1 : Int) < (o.length : Int) then 1 else (o.length : Int)).toNat)).may parse size = true := by
  unfold Gossip.may
  simp only [Bool.and_eq_true,decide_eq_true_eq]
  have hb : (o.take (if (1 : Int) < (o.length : Int) then 1 else (o.length : Int)).toNat).length ≤ 1 := by
    rw [List.length_take]; split <;> omega
  refine ⟨⟨⟨ho.i0,ho.i1,t1,t2,fun e => t0 e.symm,by omega⟩,views_may (fun w hw => ?_) ?_ (fun w hw => ?_)⟩, ?_⟩
  · obtain ⟨h1,h2⟩ := List.mem_filter.1 hw
    have h2 : 0 < w.Rev := by simpa using h2
    obtain ⟨i,hi2⟩ := List.getElem?_of_mem h1
    have hr := ho.vr i w hi2
    have hl := (List.getElem?_eq_some_iff.1 hi2).1
    have hvl := ho.vl
    exact ⟨view_may (ho.vs w h1) (hi.fil w h1) hB (by omega) (by omega) h2,h2⟩
  · refine List.Pairwise.filter _ ?_
    rw [List.pairwise_iff_getElem]
    intro i j h1 h2 h3
    have e1 := ho.vr i _ (List.getElem?_eq_getElem h1)
    have e2 := ho.vr j _ (List.getElem?_eq_getElem h2)
    omega
  · obtain ⟨h1,h2⟩ := List.mem_filter.1 hw
    obtain ⟨i,hi2⟩ := List.getElem?_of_mem h1
    have hr := ho.vr i w hi2
    omega
  · have hm : ∀ v ∈ o.take (if (1 : Int) < (o.length : Int) then 1 else (o.length : Int)).toNat,v.may = true := fun v hv => by
      have h1 := List.mem_of_mem_take hv
      have h2 := hp.mem_iff.1 h1
      exact ho.hm.may v (List.mem_filter.1 h2).1
    generalize o.take (if (1 : Int) < (o.length : Int) then 1 else (o.length : Int)).toNat = b at *
    rcases b with _ | ⟨v,b⟩
    · rfl
    · rcases b with _ | ⟨u,b⟩
      · simp [batchMay,hm v (List.mem_cons_self ..)]
      · simp at hb
theorem c8 (l : List UInt8) : X.call 8 [.tree (l.map encB)] [] ⟨.bool true,[],[]⟩ := by
  by_cases hl : l.length ≤ 150
  · obtain ⟨r,q,m,size,cR,h,hr,-⟩ := repl_ex ⟨l,0⟩ (by simp only; omega) 50 (by omega)
    have ho := h.mem hr
    have hi := h.ri r hr
    have hvl := ho.vl
    have hsz := ho.sz
    have hs5 := ho.s5
    refine spec_of ok Go.Proofs.Tryz.func8 ok8 ?_
    refine (.c (@Tryz.c25) (.F (.k (150 < (↑(List.map encB l).length : Int)) (150 < l.length) (by simp only [List.length_map,ciLt]) (fun _h15 => False.elim (by omega)) (fun _h15 => .c (@Tryz.c10 (l))
     (.c (@cR) ?_)))))
    refine Sat.pLoop 7 (St.mk [(3,.ref (.head 3 0) 0 0),(4,.int .i64 1)] [(.head 3 0,.box (encRepl r) true)]) (by kernel_rfl) (fun (to : Nat) => ⟨[(3,.ref
     (.head 3 0) 0 0),(4,.int .i64 to)],[(.head 3 0,.box (encRepl r) true)]⟩) (fun to => 1 ≤ to ∧ to ≤ size + 1) (fun to => size + 1 - to) 1 rfl ?_ ?_
    · exact ⟨by omega,by omega⟩
    · rintro to ⟨t1,t2⟩ again
      by_cases ht : to ≤ size
      · by_cases hid : (to : Int) = r.ID
        · have cN := to_no r to 1 (fun h => h.1 hid)
          clear ho hi h
          refine (.i ((↑to : Int) ≤ r.Size) (fun _h23 => .c (@cN) (.j (false = !decide ((↑to : Int) = r.ID)) (fun _h24 => .q (Res.mk (.bool false) [] []) (by (clear cR again cN; simp_all))) (fun _h24 => .T
           (have _w25 := wI64' ((↑to : Int) + (1 : Int)); .A (St.mk [(3,.ref
           (.head 3 0) 0 0),(4,.int .i64 (IntKind.i64.wrap ((↑to : Int) + 1)))] [(.head 3 0,.box (encRepl r) true)]) (by simp [encRepl,_w25]) (again (to + (1 : Nat)) (by omega) (by omega))))))
           (fun _h23 => False.elim (by omega)))
        · obtain ⟨o,w,cT,hw,hwr,hp,hso⟩ := to_yes r size _ ho to 1 ⟨hid,by omega,by omega,by omega,by omega⟩
          have hmay := told_may ho hi (by omega) hid (by omega) (by omega) hp
          have hol : o.length ≤ 6 := by
            have := hp.length_eq
            have := List.length_filter_le (fun v => decide (0 < v.S.cmp (headAt w.Seen v.Item))) r.Held
            have := ho.hm.len
            unfold newsOf at *; omega
          have hvw : ∀ v ∈ r.Views,v.Filter.length ≤ 100000 ∧ v.Seen.length ≤ 100000 ∧ v.Epochs.length ≤ 100000 := fun v hv => by
            have o := ho.vs v hv
            have := headsMay_len (by omega) o.s
            have := o.f
            refine ⟨by omega,by omega, ?_⟩
            by_cases e : v.Rev = 0
            · rw [o.e0 e]; simp
            · rw [o.el e]; omega
          have hvb : ∀ v ∈ o,v.Attrs.length ≤ 100000 ∧ v.Tag.length ≤ 100000 ∧ v.Body.length ≤ 100000 := fun v hv => by
            have f := Version.may_fit (ho.hm.may v (List.mem_filter.1 (hp.mem_iff.1 hv)).1)
            have := f.al; have := f.tl; have := f.bl; omega
          have hfl := List.length_filter_le (fun v : View => decide (0 < v.Rev)) r.Views
          have cG := c35 (Gossip.mk r.ID to (r.Views.filter fun v => decide (0 < v.Rev)) (o.take (if (1 : Int) < (o.length : Int) then 1 else (o.length : Int)).toNat)) r.Size (by omega) (by simp only; omega) (by simp only [List.length_take]; omega) (fun v hv => hvw v (List.mem_filter.1 hv).1) (fun v hv => hvb v (List.mem_of_mem_take hv))
          rw [hsz] at cG
          rw [hmay,← hsz] at cG
          generalize o.take (if (1 : Int) < (o.length : Int) then 1 else (o.length : Int)).toNat = bt at *
          have hown : 1 ≤ (r.Views.filter fun v => decide (0 < v.Rev)).length := by
            have : r.own ∈ r.Views.filter fun v => decide (0 < v.Rev) := List.mem_filter.2 ⟨ho.own_mem,by have := ho.o1; simp; omega⟩
            exact List.length_pos_of_mem this
          have hrev : ∀ v ∈ r.Views,0 ≤ v.Rev := fun v hv => (ho.vs v hv).v0
          have hat := fun (i : Nat) (x : View) (h1 : r.Views[i]? = some x) (h2 : 0 < x.Rev) => filter_pos (p := fun v => decide (0 < v.Rev)) h1 (by simpa using h2)
          have hall : ((r.Views.take r.Views.length).filter fun v => decide (0 < v.Rev)).length = (r.Views.filter fun v => decide (0 < v.Rev)).length := by rw [List.take_length]
          clear hp hso hmay hvb ho hi h
          refine (.i ((↑to : Int) ≤ r.Size) (fun _h42 => .c (@cT) (.j (true = !decide ((↑to : Int) = r.ID)) (fun _h43 => .q (Res.mk (.bool false) [] []) (by (clear cR again cT cG; simp_all)))
           (fun _h43 => .F ?_))) (fun _h42 => False.elim (by omega)))
          have hstep : ∀ (i : Nat) (x : View),r.Views[i]? = some x → ((r.Views.take (i + 1)).filter fun v => decide (0 < v.Rev)).length = ((r.Views.take i).filter fun v => decide (0 < v.Rev)).length + (if 0 < x.Rev then 1 else 0) := fun i x hx => by
            rw [take_succ hx,List.filter_append,List.length_append]
            by_cases c : 0 < x.Rev <;> simp [c]
          generalize hG : (r.Views.filter fun v => decide (0 < v.Rev)) = G at *
          refine Sat.pLoop 15 (St.mk [(3,.ref (.head 3 0) 0 0),(4,.int .i64 (↑to : Int)),(5,.ref (.head 5 0) 0 0),(7,.int .i64 0),(8,.int .i64 0)] [(.head 3 0,.box (encRepl r) true),(.head 5 0,.box
           (.agg [.int .i64 r.ID,.int .i64 ↑to,.tree (List.map encView G),.tree (List.map encVersion bt)]) true)]) (by kernel_rfl) (fun (i : Nat) => ⟨[(3,.ref (.head 3 0) 0 0),(4,.int .i64 to),(5,.ref
           (.head 5 0) 0 0),(7,.int .i64 (((r.Views.take i).filter fun v => decide (0 < v.Rev)).length : Nat)),(8,.int .i64 i)],[(.head 3 0,.box (encRepl r) true),
           (.head 5 0,.box (encGossip ⟨r.ID,to,G,bt⟩) true)]⟩) (fun i => i ≤ r.Views.length) (fun i => r.Views.length - i) 0 rfl ?_ ?_
          · omega
          · intro i hi again2
            by_cases hiv : i < r.Views.length
            · obtain ⟨v,hv⟩ : ∃ v,r.Views[i]? = some v := ⟨r.Views[i],by simp⟩
              have hst := hstep i v hv
              have hv0 := hrev v (List.mem_of_getElem? hv)
              have hvl2 := hvw v (List.mem_of_getElem? hv)
              by_cases hvr : v.Rev = 0
              · rw [if_neg (by omega)] at hst
                refine (.i ((↑i : Int) < r.Size) (fun _h64 => .T (.eh encView hv (.it hvr (have _w65 := wI64' ((↑i : Int) + (1 : Int)); .A (St.mk [(3,.ref (.head 3 0) 0 0),(4,.int .i64 (↑to : Int)),(5,.ref
                 (.head 5 0) 0 0),(7,.int .i64 (↑(List.filter (fun (v : View) => decide (0 < v.Rev)) (List.take i r.Views)).length : Int)),(8,.int .i64 (IntKind.i64.wrap ((↑i : Int) + 1)))] [(.head 3 0,.box (encRepl r) true),
                 (.head 5 0,.box
                 (.agg [.int .i64 r.ID,.int .i64 ↑to,.tree (List.map encView G),.tree (List.map encVersion bt)]) true)]) (by (clear cR again cT cG again2; (simp [encI,encWord,encRd,encBr,encB_fun,encPicks,encAttr,encHead,encStamp,encVersion,encView,encRepl,encGossip,encGram,encEdge,encStep,encMesh,List.map_append,List.map_cons,List.map_nil,_w65]; omega))) (again2 (i + (1 : Nat)) (by omega) (by omega))))))
                 (fun _h64 => False.elim (by omega)))
              · have hgt := hat i v hv (by omega)
                rw [if_pos (by omega)] at hst
                have hlt := (List.getElem?_eq_some_iff.1 hgt).1
                generalize ((r.Views.take i).filter fun v => decide (0 < v.Rev)).length = c at *
                refine (.i ((↑i : Int) < r.Size) (fun _h68 => .T (.eh encView hv (.iF hvr (.k ((↑(List.map encView G).length : Int) ≤ (↑c : Int)) (G.length ≤ c) (by simp only [List.length_map,Int.ofNat_le])
                 (fun _h69 => False.elim (by omega)) (fun _h69 => .eF ((↑(List.map encView G).length : Int) ≤ (↑c : Int)) (by simp only [List.length_map,Int.ofNat_le]) _h69
                 (.eF ((↑(List.map encView G).length : Int) ≤ (↑c : Int)) (by simp only [List.length_map,Int.ofNat_le]) _h69
                 (.eF ((↑(List.map encView G).length : Int) ≤ (↑c : Int)) (by simp only [List.length_map,Int.ofNat_le]) _h69 (.T (.eh encView hgt
                 (.eF ((↑(List.map encView G).length : Int) ≤ (↑c : Int)) (by simp only [List.length_map,Int.ofNat_le]) _h69
                 (.eF ((↑(List.map encView G).length : Int) ≤ (↑c : Int)) (by simp only [List.length_map,Int.ofNat_le]) _h69
                 (.eF ((↑(List.map encView G).length : Int) ≤ (↑c : Int)) (by simp only [List.length_map,Int.ofNat_le]) _h69
                 (.eF ((↑(List.map encView G).length : Int) ≤ (↑c : Int)) (by simp only [List.length_map,Int.ofNat_le]) _h69
                 (.eF ((↑(List.map encView G).length : Int) ≤ (↑c : Int)) (by simp only [List.length_map,Int.ofNat_le]) _h69 (.T (.eh encView hv
                 (.eF ((↑(List.map encView G).length : Int) ≤ (↑c : Int)) (by simp only [List.length_map,Int.ofNat_le]) _h69
                 (.eF ((↑(List.map encView G).length : Int) ≤ (↑c : Int)) (by simp only [List.length_map,Int.ofNat_le]) _h69 (.c (@Tryz.c34 (v) (v) (by omega) (by omega))
                 (.eF ((↑(List.map encView G).length : Int) ≤ (↑c : Int)) (by simp only [List.length_map,Int.ofNat_le]) _h69
                 (.eF ((↑(List.map encView G).length : Int) ≤ (↑c : Int)) (by simp only [List.length_map,Int.ofNat_le]) _h69 (.l (v = v) (True) (by simp only []) (fun _h70 => (_h70 trivial).elim)
                 (fun _h70 => have _w71 := wI64' ((↑c : Int) + (1 : Int)); have _w72 := wI64' ((↑i : Int) + (1 : Int)); .A (St.mk [(3,.ref (.head 3 0) 0 0),(4,.int .i64 (↑to : Int)),(5,.ref
                 (.head 5 0) 0 0),(7,.int .i64 (IntKind.i64.wrap ((↑c : Int) + 1))),(8,.int .i64 (IntKind.i64.wrap ((↑i : Int) + 1)))] [(.head 3 0,.box (encRepl r) true),(.head 5 0,.box
                 (.agg [.int .i64 r.ID,.int .i64 ↑to,.tree (List.map encView G),.tree (List.map encVersion bt)]) true)]) (by (clear cR again cT cG again2; (simp [encI,encWord,encRd,encBr,encB_fun,encPicks,encAttr,encHead,encStamp,encVersion,encView,encRepl,encGossip,encGram,encEdge,encStep,encMesh,List.map_append,List.map_cons,List.map_nil,_w72,_w71]; omega))) (again2 (i + (1 : Nat)) (by omega) (by omega)))))))))))))))))))))))))
                 (fun _h68 => False.elim (by omega)))
            · have e : i = r.Views.length := by omega
              subst e
              rw [hall]
              refine (.i ((↑r.Views.length : Int) < r.Size) (fun _h56 => False.elim (by omega)) (fun _h56 => .l ((↑G.length : Int) = (↑(List.map encView G).length : Int)) (True) (by simp only [List.length_map])
               (fun _h57 => (_h57 trivial).elim) (fun _h57 => .ev ((↑G.length : Int) = (↑(List.map encView G).length : Int)) (by simp only [List.length_map]) _h57
               (.ev ((↑G.length : Int) = (↑(List.map encView G).length : Int)) (by simp only [List.length_map]) _h57 (.k ((↑G.length : Int) < 1) (G.length < 1) (by simp only [icLt])
               (fun _h58 => False.elim (by omega)) (fun _h58 => .eF ((↑G.length : Int) < 1) (by simp only [icLt]) _h58 (.eF ((↑G.length : Int) < 1) (by simp only [icLt]) _h58
               (.eF ((↑G.length : Int) < 1) (by simp only [icLt]) _h58 (.c (@cG) (.eF ((↑G.length : Int) < 1) (by simp only [icLt]) _h58 (.eF ((↑G.length : Int) < 1) (by simp only [icLt]) _h58 (.F
               (have _w59 := wI64' ((↑to : Int) + (1 : Int)); .A (St.mk [(3,.ref
               (.head 3 0) 0 0),(4,.int .i64 (IntKind.i64.wrap ((↑to : Int) + 1)))] [(.head 3 0,.box (encRepl r) true)]) (by simp [encRepl,_w59]) (again (to + (1 : Nat)) (by omega) (by omega)))))))))))))))
      · clear ho hi h
        refine (.i ((↑to : Int) ≤ r.Size) (fun _h21 => False.elim (by omega)) (fun _h21 => .r))
  · refine spec_of ok Go.Proofs.Tryz.func8 ok8 ?_
    refine (.c (@Tryz.c25) (.F (.k (150 < (↑(List.map encB l).length : Int)) (150 < l.length) (by simp only [List.length_map,ciLt]) (fun _h3 => .r) (fun _h3 => False.elim (by omega)))))
theorem law_OfferViews (x0 : List UInt8) (_h0 : (∀ x ∈ x0,True) ∧ x0.length ≤ maxLen) : X.call 8 [.tree (x0.map encB)] [] ⟨.bool true,[],[]⟩ := c8 x0
end Go.Ab.Tryz
