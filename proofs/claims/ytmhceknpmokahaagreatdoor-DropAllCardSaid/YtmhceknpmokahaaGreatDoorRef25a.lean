/- Package cardamomref25: writes, as plain Lean. -/
import Derived.Test.YtmhceknpmokahaaGreatDoorRef1f
import Derived.Test.YtmhceknpmokahaaGreatDoorG3
import Derived.Test.YtmhceknpmokahaaGreatDoorRef11b
namespace Go.Ab.Tryz
open Go
set_option maxRecDepth 100000
set_option maxHeartbeats 4000000
end Go.Ab.Tryz
namespace Go.Ab.Tryz
open Go
set_option maxRecDepth 100000
set_option maxHeartbeats 4000000
theorem c171 (m:Mesh) (r:Repl) (h1:1≤r.ID) (h2:r.ID≤m.Repls.length) (hl:m.Repls.length≤1000):X.call 171 [encMesh m,encRepl r] [] ⟨encMesh (m.with_ r),[],[]⟩:=by
 refine spec_of ok Go.Proofs.Tryz.func171 ok171 ?_
 refine(.z encRepl m.Repls 7 (fun _=>rfl)
  (.k ((0+(List.map encRepl m.Repls).length)*(88:Nat)≤140737488355328) ((0+m.Repls.length)*(88:Nat)≤140737488355328) (by simp only[List.length_map]) (fun _h6=> .T
  (have _w7:=wI64' (r.ID-(1:Int)); .k (0≤IntKind.i64.wrap (r.ID-1)∧IntKind.i64.wrap (r.ID-1)<(↑(0+(List.map encRepl m.Repls).length):Int)) (0≤r.ID-1∧r.ID-1<(↑(0+m.Repls.length):Int)) (by simp only[List.length_map,_w7])
  (fun _h8=> .eM encRepl m.Repls ((IntKind.i64.wrap (r.ID-1)).toNat) ((r.ID-1).toNat) (by simp only[_w7]) (by omega)
  (fun _x9 a0=>have a1:List.take ((0:Nat)+(List.map encRepl m.Repls).length) ((List.map encRepl m.Repls).set (r.ID-(1:Int)).toNat (encRepl r))=(List.map encRepl m.Repls).set (r.ID-(1:Int)).toNat (encRepl r):=List.take_of_length_le (by simp); .q (Res.mk
  (.agg [.int .i64 m.Size,.int .i64 m.Batch,.tree (List.map encEdge m.Edges),.tree (List.take (0+(List.map encRepl m.Repls).length) ((List.map encRepl m.Repls).set (IntKind.i64.wrap (r.ID-1)).toNat (encRepl r))),.tree (List.map encGram m.Fly),.tree (List.map encVersion m.Issued)]) [] []) (by(simp[encMesh,List.map_set,List.take_of_length_le, *];done))))
  (fun _h8=>False.elim (by omega)))) (fun _h6=>False.elim (by omega))))
theorem c210 (m:Mesh) (r:Repl) (v:Version) (h1:1≤r.ID) (h2:r.ID≤m.Repls.length) (hl:m.Repls.length≤1000) (hi:m.Issued.length≤100000):X.call 210 [encMesh m,encRepl r,encVersion v] [] ⟨encMesh (m.wrote r v),[],[]⟩:=by
 refine spec_of ok Go.Proofs.Tryz.func210 ok210 ?_
 refine(.c (@Tryz.c171 (m) (r) ‹_› ‹_› ‹_›) (.b (.b (.z encVersion m.Issued 8 (fun _=>rfl)
  (.k ((0+(List.map encVersion m.Issued).length)*(96:Nat)≤140737488355328) ((0+m.Issued.length)*(96:Nat)≤140737488355328) (by simp only[List.length_map]) (fun _h8=> .T
  (.k ((0+(List.map encVersion m.Issued).length+1)*(96:Nat)≤140737488355328) ((0+m.Issued.length+1)*(96:Nat)≤140737488355328) (by simp only[List.length_map])
  (fun _h9=> .k (0+(List.map encVersion m.Issued).length=(List.map encVersion m.Issued).length) (0+m.Issued.length=m.Issued.length) (by simp only[List.length_map])
  (fun a0=>have a7:List.take ((0:Nat)+(List.map encVersion m.Issued).length+(1:Nat)) (List.map encVersion m.Issued++[encVersion v])=List.map encVersion m.Issued++[encVersion v]:=List.take_of_length_le (by simp); .q (Res.mk
  (.agg [.int .i64 m.Size,.int .i64 m.Batch,.tree (List.map encEdge m.Edges),.tree (List.map encRepl (m.Repls.set (r.ID-1).toNat r)),.tree (List.map encGram m.Fly),.tree (List.take (0+(List.map encVersion m.Issued).length+1) (List.map encVersion m.Issued++[encVersion v]))]) [] []) (by(simp[encMesh,encVersion,List.map_set,List.take_of_length_le, *];done)))
  (fun a0=>False.elim (by omega))) (fun _h9=>False.elim (by omega)))) (fun _h8=>False.elim (by omega)))) (.z encVersion m.Issued 8 (fun _=>rfl)
  (.k ((0+(List.map encVersion m.Issued).length)*(96:Nat)≤140737488355328) ((0+m.Issued.length)*(96:Nat)≤140737488355328) (by simp only[List.length_map]) (fun a1=> .T
  (.k ((0+(List.map encVersion m.Issued).length+1)*(96:Nat)≤140737488355328) ((0+m.Issued.length+1)*(96:Nat)≤140737488355328) (by simp only[List.length_map])
  (fun a2=> .k (0+(List.map encVersion m.Issued).length=(List.map encVersion m.Issued).length) (0+m.Issued.length=m.Issued.length) (by simp only[List.length_map])
  (fun a3=>have a8:List.take ((0:Nat)+(List.map encVersion m.Issued).length+(1:Nat)) (List.map encVersion m.Issued++[encVersion v])=List.map encVersion m.Issued++[encVersion v]:=List.take_of_length_le (by simp); .q (Res.mk
  (.agg [.int .i64 m.Size,.int .i64 m.Batch,.tree (List.map encEdge m.Edges),.tree (List.map encRepl (m.Repls.set (r.ID-1).toNat r)),.tree (List.map encGram m.Fly),.tree (List.take (0+(List.map encVersion m.Issued).length+1) (List.map encVersion m.Issued++[encVersion v]))]) [] []) (by(simp[encMesh,encVersion,List.map_set,List.take_of_length_le, *];done)))
  (fun a3=>False.elim (by omega))) (fun a2=>False.elim (by omega)))) (fun a1=>False.elim (by omega))))) (.z encVersion m.Issued 8 (fun _=>rfl)
  (.k ((0+(List.map encVersion m.Issued).length)*(96:Nat)≤140737488355328) ((0+m.Issued.length)*(96:Nat)≤140737488355328) (by simp only[List.length_map]) (fun a4=> .T
  (.k ((0+(List.map encVersion m.Issued).length+1)*(96:Nat)≤140737488355328) ((0+m.Issued.length+1)*(96:Nat)≤140737488355328) (by simp only[List.length_map])
  (fun a5=> .k (0+(List.map encVersion m.Issued).length=(List.map encVersion m.Issued).length) (0+m.Issued.length=m.Issued.length) (by simp only[List.length_map])
  (fun a6=>have a9:List.take ((0:Nat)+(List.map encVersion m.Issued).length+(1:Nat)) (List.map encVersion m.Issued++[encVersion v])=List.map encVersion m.Issued++[encVersion v]:=List.take_of_length_le (by simp); .q (Res.mk
  (.agg [.int .i64 m.Size,.int .i64 m.Batch,.tree (List.map encEdge m.Edges),.tree (List.map encRepl (m.Repls.set (r.ID-1).toNat r)),.tree (List.map encGram m.Fly),.tree (List.take (0+(List.map encVersion m.Issued).length+1) (List.map encVersion m.Issued++[encVersion v]))]) [] []) (by(simp[encMesh,encVersion,List.map_set,List.take_of_length_le, *];done)))
  (fun a6=>False.elim (by omega))) (fun a5=>False.elim (by omega)))) (fun a4=>False.elim (by omega))))))
theorem c164 (m:Mesh) (s:Step) (h1:1≤s.R) (h2:s.R≤m.Repls.length) (hl:m.Repls.length≤1000) (hi:m.Issued.length≤10000) (hr:∀r∈m.Repls,r.Sm) (hid:∀r∈m.Repls,r.ID≤m.Repls.length)
  (ha:s.Attrs.length≤1000) (ht:s.Tag.length≤1000) (hb:s.Text.length≤1000):X.call 164 [encMesh m,encStep s] [] ⟨.tuple [encMesh (m.write parse s).1,.int .i64 (m.write parse s).2],[],[]⟩:=by
 refine spec_of ok Go.Proofs.Tryz.func164 ok164 ?_
 refine(have a2:=wI64' (s.R-(1:Int)); .k (0≤IntKind.i64.wrap (s.R-1)) (0≤s.R-1) (by simp only[a2])
  (fun a3=> .eM encRepl m.Repls ((IntKind.i64.wrap (s.R-1)).toNat) ((s.R-1).toNat) (by simp only[a2]) (by omega)
  (fun a0 a1=>have a9:=(hr a0 (List.mem_of_getElem? a1)).1;have aa:=(hr a0 (List.mem_of_getElem? a1)).2.1;have ab:=(hr a0 (List.mem_of_getElem? a1)).2.2.1;have ac:=(hr a0 (List.mem_of_getElem? a1)).2.2.2.1;have ad:=(hr a0 (List.mem_of_getElem? a1)).2.2.2.2.1;have ae:=(hr a0 (List.mem_of_getElem? a1)).2.2.2.2.2.1;have af:=(hr a0 (List.mem_of_getElem? a1)).2.2.2.2.2.2.1;have ag:=(hr a0 (List.mem_of_getElem? a1)).2.2.2.2.2.2.2.1;have ah:=(hr a0 (List.mem_of_getElem? a1)).2.2.2.2.2.2.2.2.1;have ai:=(hr a0 (List.mem_of_getElem? a1)).2.2.2.2.2.2.2.2.2.1;have aj:=(hr a0 (List.mem_of_getElem? a1)).2.2.2.2.2.2.2.2.2.2.1;have ak:=(hr a0 (List.mem_of_getElem? a1)).2.2.2.2.2.2.2.2.2.2.2.1;have al:=(hr a0 (List.mem_of_getElem? a1)).2.2.2.2.2.2.2.2.2.2.2.2.1;have am:=(hr a0 (List.mem_of_getElem? a1)).2.2.2.2.2.2.2.2.2.2.2.2.2.1;have an:=(hr a0 (List.mem_of_getElem? a1)).2.2.2.2.2.2.2.2.2.2.2.2.2.2.1;have ao:=(hr a0 (List.mem_of_getElem? a1)).2.2.2.2.2.2.2.2.2.2.2.2.2.2.2.1;have ap:=(hr a0 (List.mem_of_getElem? a1)).2.2.2.2.2.2.2.2.2.2.2.2.2.2.2.2.1;have aq:=(hr a0 (List.mem_of_getElem? a1)).2.2.2.2.2.2.2.2.2.2.2.2.2.2.2.2.2;have ar:=(hid a0 (List.mem_of_getElem? a1)); .i (s.Kind=3)
  (fun a4=> .c (@Tryz.c208 (a0) (s.Text) ‹_› ‹_› ‹_› ‹_› (by omega) ‹_› ‹_› ‹_› ‹_› ‹_›) (.j ((Repl.setFilter parse a0 s.Text).snd=0)
  (fun a5=> .q (Res.mk (AV.tuple [encMesh m,.int .i64 (Repl.setFilter parse a0 s.Text).snd]) [] []) (by(rw[write_at ‹_›];simp[Mesh.writeR,encMesh, *];done)))
  (fun a5=> .c (@Tryz.c171 (m) ((Repl.setFilter parse a0 s.Text).fst) (by(rw[setFilter_id];omega)) (by(rw[setFilter_id];omega)) ‹_›)
  (.q (Res.mk (AV.tuple [.agg [.int .i64 m.Size,.int .i64 m.Batch,.tree (List.map encEdge m.Edges),.tree (List.map encRepl (m.Repls.set ((Repl.setFilter parse a0 s.Text).fst.ID-1).toNat (Repl.setFilter parse a0 s.Text).fst)),.tree (List.map encGram m.Fly),.tree (List.map encVersion m.Issued)],.int .i64 0]) [] []) (by(rw[write_at ‹_›];simp[Mesh.writeR,encMesh, *];done))))))
  (fun a4=> .c (@Tryz.c48 (a0) (s.Item) (s.Attrs) (s.Tag) (s.Text) ‹_› ‹_› ‹_› ‹_› ‹_› ‹_› (by omega) ‹_› ‹_› ‹_› ‹_› ‹_›) (.i (s.Kind=2)
  (fun a6=> .c (@Tryz.c209 (a0) (s.Item) ‹_› ‹_› ‹_› (by omega) ‹_› ‹_› ‹_›) (.j ((a0.delete s.Item).snd.snd=0)
  (fun a7=> .q (Res.mk (AV.tuple [encMesh m,.int .i64 (a0.delete s.Item).snd.snd]) [] []) (by(rw[write_at ‹_›];simp[Mesh.writeR,encMesh, *];done)))
  (fun a7=> .c (@Tryz.c210 (m) ((a0.delete s.Item).fst) ((a0.delete s.Item).snd.fst) (by(rw[delete_id];omega)) (by(rw[delete_id];omega)) ‹_› (by omega))
  (.q (Res.mk (AV.tuple [.agg [.int .i64 m.Size,.int .i64 m.Batch,.tree (List.map encEdge m.Edges),.tree (List.map encRepl (m.Repls.set ((a0.delete s.Item).fst.ID-1).toNat (a0.delete s.Item).fst)),.tree (List.map encGram m.Fly),.tree (List.map encVersion (m.Issued++[(a0.delete s.Item).snd.fst]))],.int .i64 0]) [] []) (by(rw[write_at ‹_›];simp[Mesh.writeR,encMesh, *];done))))))
  (fun a6=> .j ((Repl.put parse a0 s.Item s.Attrs s.Tag s.Text).snd.snd=0)
  (fun a8=> .q (Res.mk (AV.tuple [encMesh m,.int .i64 (Repl.put parse a0 s.Item s.Attrs s.Tag s.Text).snd.snd]) [] []) (by(rw[write_at ‹_›];simp[Mesh.writeR,encMesh, *];done)))
  (fun a8=> .c (@Tryz.c210 (m) ((Repl.put parse a0 s.Item s.Attrs s.Tag s.Text).fst) ((Repl.put parse a0 s.Item s.Attrs s.Tag s.Text).snd.fst) (by(rw[put_id];omega)) (by(rw[put_id];omega)) ‹_› (by omega))
  (.q (Res.mk (AV.tuple [.agg [.int .i64 m.Size,.int .i64 m.Batch,.tree (List.map encEdge m.Edges),.tree (List.map encRepl (m.Repls.set ((Repl.put parse a0 s.Item s.Attrs s.Tag s.Text).fst.ID-1).toNat (Repl.put parse a0 s.Item s.Attrs s.Tag s.Text).fst)),.tree (List.map encGram m.Fly),.tree (List.map encVersion (m.Issued++[(Repl.put parse a0 s.Item s.Attrs s.Tag s.Text).snd.fst]))],.int .i64 0]) [] []) (by(rw[write_at ‹_›];simp[Mesh.writeR,encMesh, *];done)))))))))
  (fun a3=>False.elim (by omega)))
end Go.Ab.Tryz
