/- Package repl: its own view, of replicas that may be. -/
import Derived.Test.YtmhceknpmokahaaGreatDoorRank
import Derived.Test.YtmhceknpmokahaaGreatDoorAbEdge
namespace Go.Ab.Tryz
open Go
set_option maxRecDepth 100000
set_option maxHeartbeats 4000000
theorem c146 (v:View) (r:Repl):X.call 146 [encView v,.cptr (encRepl r)] [] ⟨.bool (decide (v.R=r.ID)),[],[]⟩:=by
 refine spec_of ok Go.Proofs.Tryz.func146 ok146 ?_
 refine .r
theorem c115 (r:Repl) (h:∀(i:Nat) (w:View),r.Views[i]? =some w→w.R=(i:Int)+1) (h1:1≤r.ID) (h2:r.ID≤r.Views.length) (hl:r.Views.length≤1000):X.call 115 [.tree (r.Views.map encView),.func 146 [] [.cptr (encRepl r)]] [] ⟨.int .i64 (r.ID-1),[],[]⟩:=by
 refine spec_of ok Go.Proofs.Tryz.func115 ok115 ?_
 refine ?_
 refine Sat.pLoop 2 (St.mk [(0,.tree (List.map encView r.Views)),(1,AV.func (146:FuncId) [] [(encRepl r).cptr]),(7,.int .i64 (↑(List.map encView r.Views).length:Int)),(8,.int .i64 0)] []) (by kernel_rfl) (fun(k:Nat)=>⟨[(0,.tree (r.Views.map encView)),(1,.func 146 [] [.cptr (encRepl r)]),(7,.int .i64 r.Views.length),(8,.int .i64 k)],[]⟩) (fun k=>(k:Int)≤r.ID-1) (fun k=>r.Views.length-k) 0 (by simp) ?_ ?_
 ·simp;omega
 ·intro k hk again
  obtain⟨w,hw⟩:∃w,r.Views[k]? =some w:=⟨r.Views[k]'(by omega),by simp⟩
  have hR:=h k w hw
  refine(.k ((↑k:Int)<(↑r.Views.length:Int)) (k<r.Views.length) (by simp only[Int.ofNat_lt]) (fun a0=> .T (.eh encView hw (.c (@Tryz.c146 (w) (r)) (.i (w.R=r.ID) (fun a1=> .q (Res.mk
   (.int .i64 (↑k:Int)) [] []) (by(clear again;(simp;omega))))
   (fun a1=>have a2:=wI64' ((↑k:Int)+(1:Int)); .A (St.mk [(0,.tree (List.map encView r.Views)),(1,AV.func (146:FuncId) [] [(encRepl r).cptr]),(7,.int .i64 (↑r.Views.length:Int)),(8,.int .i64 (IntKind.i64.wrap ((↑k:Int)+1)))] []) (by simp[a2]) (again (k+(1:Nat)) (by omega) (by omega)))))))
   (fun a0=>False.elim (by omega)))
theorem c95 (r:Repl) (h:∀(i:Nat) (w:View),r.Views[i]? =some w→w.R=(i:Int)+1) (h1:1≤r.ID) (h2:r.ID≤r.Views.length) (hl:r.Views.length≤1000):X.call 95 [encRepl r] [] ⟨.tuple [.int .i64 (r.ID-1),.bool true],[],[]⟩:=by
 refine spec_of ok Go.Proofs.Tryz.func95 ok95 ?_
 refine(.c (@Tryz.c115 (r) ‹_› ‹_› ‹_› ‹_›) (.q (Res.mk (AV.tuple [.int .i64 (if 0>r.ID-1 then 0 else r.ID-1),.bool (decide (0≤r.ID-1))]) [] []) (by(simp_all;omega))))
theorem c47 (r:Repl) (h:∀(i:Nat) (w:View),r.Views[i]? =some w→w.R=(i:Int)+1) (h1:1≤r.ID) (h2:r.ID≤r.Views.length) (hl:r.Views.length≤1000) (hh:r.Held.length≤1000) (h3:∀v∈r.Held,v.Attrs.length≤1000) (h4:∀w∈r.Views,w.Seen.length≤1000∧w.Epochs.length≤1000):X.call 47 [encRepl r] [] ⟨encView (ownOf r.ID r.Views),[],[]⟩:=by
 obtain⟨w,hw⟩:∃w,r.Views[(r.ID-1).toNat]? =some w:=⟨r.Views[(r.ID-1).toNat]'(by omega),by simp⟩
 rw[own_at hw h1]
 refine spec_of ok Go.Proofs.Tryz.func47 ok47 ?_
 refine(.c (@Tryz.c95 (r) ‹_› ‹_› ‹_› ‹_›) (.T (.c (@Tryz.c90 (r) ‹_› ‹_› ‹_› ‹_›) (.i (0≤r.ID-1) (fun a0=> .eh encView hw .r) (fun a0=>False.elim (by omega))))))
end Go.Ab.Tryz
namespace Go.Ab.Tryz
open Go
set_option maxRecDepth 100000
set_option maxHeartbeats 4000000
theorem own_ex {size:Nat} {B:Int} {r:Repl} (h:r.Ok size B) (hB:B≤1000000000000):X.call 47 [encRepl r] [] ⟨encView r.own,[],[]⟩:=by
 obtain⟨q1,q2,q3,q4,q5,q6,q7,q8,q9,q10,q11,q12,q13,q14,q15,q16,q17,q18⟩:=h.sm hB
 have:=h.s5
 refine c47 r h.vr q1 q2 q3 (by omega) (fun v hv=>by have:=(Version.may_fit (h.hm.may v hv)).al;omega) (fun w hw=>⟨by have:=(q9 w hw).1;omega, ?_⟩)
 by_cases e:w.Rev=0
 ·rw[(h.vs w hw).e0 e];simp
 ·rw[(h.vs w hw).el e];omega
end Go.Ab.Tryz
