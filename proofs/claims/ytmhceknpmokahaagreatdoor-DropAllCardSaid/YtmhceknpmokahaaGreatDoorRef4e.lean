/- The filters' texts of runs, and what they are. -/
import Derived.Test.YtmhceknpmokahaaGreatDoorHand
import Derived.Test.YtmhceknpmokahaaGreatDoorAbEdge
namespace Go.Ab.Tryz
open Go
set_option maxRecDepth 100000
set_option maxHeartbeats 4000000
def goodP:List (List UInt8×Flt):=[([42],.leaf 1 0 0 0 []),([94,97],.leaf 4 0 0 0 [97]),([94,98],.leaf 4 0 0 0 [98]),([64,49,61,53],.leaf 2 1 5 5 []),([33,94,97],.one (.leaf 4 0 0 0 [97])),([64,48,58,48,45,57],.leaf 3 0 0 9 []),([33,42],.one (.leaf 1 0 0 0 [])),([64,49,61,53,38,94,97],.two 5 (.leaf 2 1 5 5 []) (.leaf 4 0 0 0 [97])),([64,49,61,53,124,94,98],.two 6 (.leaf 2 1 5 5 []) (.leaf 4 0 0 0 [98])),([33,64,49,61,53],.one (.leaf 2 1 5 5 []))]
theorem parse_good:∀p∈goodP,X.call 31 [.str p.1] [] ⟨.tuple [encFlt p.2,.int .i64 0,.bool true],[],[]⟩:=by
 intro p hp
 simp only[goodP,List.mem_cons,List.not_mem_nil,or_false]at hp
 rcases hp with rfl|rfl|rfl|rfl|rfl|rfl|rfl|rfl|rfl|rfl<;>exact ev_ok envOk 1000 _ _ _ _ (by kernel_rfl)
theorem good_all:∀t∈goodF,∃f,(t,f)∈goodP:=by
 intro t ht
 simp only[goodF,wants,List.mem_cons,List.not_mem_nil,or_false]at ht
 rcases ht with rfl|rfl|rfl|rfl|rfl|rfl|rfl|rfl|rfl|rfl|rfl<;>(apply Exists.intro;unfold goodP;repeat (first|exact List.Mem.head _|apply List.Mem.tail))
end Go.Ab.Tryz
