/- Package cardamomlaw14: what was swept is swept. -/
import Derived.Test.YtmhceknpmokahaaGreatDoorLaw14
namespace Go.Ab.Tryz
open Go
set_option maxRecDepth 100000
set_option maxHeartbeats 4000000
theorem c5 (l:List UInt8):X.call 5 [.tree (l.map encB)] [] ⟨.bool true,[],[]⟩:=by
 by_cases hl:l.length≤150
 ·obtain⟨r,size,cU,h,hf⟩:=unswept_ex l hl
  have c1:=sweep_ex h (by omega) hf
  have h2:=Repl.Ok.swept h
  have c2:=sweep_ex h2 (by omega) hf
  rw[sweep_twice]at c2
  have c3:=same_repl h2
  clear h h2 hf
  refine spec_of ok Go.Proofs.Tryz.func5 ok5 ?_
  refine(.c (@Tryz.c15) (.F (.k (150<(↑(List.map encB l).length:Int)) (150<l.length) (by simp only[List.length_map,ciLt]) (fun a0=>False.elim (by omega)) (fun a0=> .c (@cU) (.c (@c1)
   (.c (@c2) (.c (@c3) .r)))))))
 ·refine spec_of ok Go.Proofs.Tryz.func5 ok5 ?_
  refine(.c (@Tryz.c15) (.F (.k (150<(↑(List.map encB l).length:Int)) (150<l.length) (by simp only[List.length_map,ciLt]) (fun _h3=> .r) (fun _h3=>False.elim (by omega)))))
theorem law_DropTwice (x0:List UInt8) (_h0:(∀x∈x0,True)∧x0.length≤maxLen):X.call 5 [.tree (x0.map encB)] [] ⟨.bool true,[],[]⟩:=c5 x0
end Go.Ab.Tryz
