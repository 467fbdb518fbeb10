/- Package cardamomref25: writes, as plain Lean. -/
import Derived.Test.YtmppanboolejjaaGreatRef11b
import Derived.Test.YtmppanboolejjaaGreatRef20b
import Derived.Test.YtmppanboolejjaaGreatG3
namespace Go.Ab.Tryz
open Go
set_option maxRecDepth 100000
set_option maxHeartbeats 4000000
theorem c54 (m : Mesh) (r : Repl) (h1 : 1 ≤ r.ID) (h2 : r.ID ≤ m.Repls.length) (hl : m.Repls.length ≤ 1000) : X.call 54 [encMesh m,encRepl r] [] ⟨encMesh (m.with_ r),[],[]⟩ := by
  refine spec_of ok Go.Proofs.Tryz.func54 ok54 ?_
  refine (.z encRepl m.Repls 7 (fun _ => rfl)
   (.k ((0 + (List.map encRepl m.Repls).length) * (88 : Nat) ≤ 140737488355328) ((0 + m.Repls.length) * (88 : Nat) ≤ 140737488355328) (by simp only [List.length_map]) (fun _h6 => .T
   (have _w7 := wI64' (r.ID - (1 : Int)); .k (0 ≤ IntKind.i64.wrap (r.ID - 1) ∧ IntKind.i64.wrap (r.ID - 1) < (↑(0 + (List.map encRepl m.Repls).length) : Int)) (0 ≤ r.ID - 1 ∧ r.ID - 1 < (↑(0 + m.Repls.length) : Int)) (by simp only [List.length_map,_w7])
   (fun _h8 => .eM encRepl m.Repls ((IntKind.i64.wrap (r.ID - 1)).toNat) ((r.ID - 1).toNat) (by simp only [_w7]) (by omega)
   (fun _x9 _hx10 => have _w11 : List.take ((0 : Nat) + (List.map encRepl m.Repls).length) ((List.map encRepl m.Repls).set (r.ID - (1 : Int)).toNat (encRepl r)) = (List.map encRepl m.Repls).set (r.ID - (1 : Int)).toNat (encRepl r) := List.take_of_length_le (by simp); .q (Res.mk
   (.agg [.int .i64 m.Size,.int .i64 m.Batch,.tree (List.map encEdge m.Edges),.tree (List.take (0 + (List.map encRepl m.Repls).length) ((List.map encRepl m.Repls).set (IntKind.i64.wrap (r.ID - 1)).toNat (encRepl r))),.tree (List.map encGram m.Fly),.tree (List.map encVersion m.Issued)]) [] []) (by (simp [encMesh,List.map_set,List.take_of_length_le, *]; done))))
   (fun _h8 => False.elim (by omega)))) (fun _h6 => False.elim (by omega))))
theorem c81 (m : Mesh) (r : Repl) (v : Version) (h1 : 1 ≤ r.ID) (h2 : r.ID ≤ m.Repls.length) (hl : m.Repls.length ≤ 1000) (hi : m.Issued.length ≤ 100000) : X.call 81 [encMesh m,encRepl r,encVersion v] [] ⟨encMesh (m.wrote r v),[],[]⟩ := by
  refine spec_of ok Go.Proofs.Tryz.func81 ok81 ?_
  refine (.c (@Tryz.c54 (m) (r) ‹_› ‹_› ‹_›) (.b (.b (.z encVersion m.Issued 8 (fun _ => rfl)
   (.k ((0 + (List.map encVersion m.Issued).length) * (96 : Nat) ≤ 140737488355328) ((0 + m.Issued.length) * (96 : Nat) ≤ 140737488355328) (by simp only [List.length_map]) (fun _h8 => .T
   (.k ((0 + (List.map encVersion m.Issued).length + 1) * (96 : Nat) ≤ 140737488355328) ((0 + m.Issued.length + 1) * (96 : Nat) ≤ 140737488355328) (by simp only [List.length_map])
   (fun _h9 => .k (0 + (List.map encVersion m.Issued).length = (List.map encVersion m.Issued).length) (0 + m.Issued.length = m.Issued.length) (by simp only [List.length_map])
   (fun _h10 => have _w11 : List.take ((0 : Nat) + (List.map encVersion m.Issued).length + (1 : Nat)) (List.map encVersion m.Issued ++ [encVersion v]) = List.map encVersion m.Issued ++ [encVersion v] := List.take_of_length_le (by simp); .q (Res.mk
   (.agg [.int .i64 m.Size,.int .i64 m.Batch,.tree (List.map encEdge m.Edges),.tree (List.map encRepl (m.Repls.set (r.ID - 1).toNat r)),.tree (List.map encGram m.Fly),.tree (List.take (0 + (List.map encVersion m.Issued).length + 1) (List.map encVersion m.Issued ++ [encVersion v]))]) [] []) (by (simp [encMesh,encVersion,List.map_set,List.take_of_length_le, *]; done)))
   (fun _h10 => False.elim (by omega))) (fun _h9 => False.elim (by omega)))) (fun _h8 => False.elim (by omega)))) (.z encVersion m.Issued 8 (fun _ => rfl)
   (.k ((0 + (List.map encVersion m.Issued).length) * (96 : Nat) ≤ 140737488355328) ((0 + m.Issued.length) * (96 : Nat) ≤ 140737488355328) (by simp only [List.length_map]) (fun _h12 => .T
   (.k ((0 + (List.map encVersion m.Issued).length + 1) * (96 : Nat) ≤ 140737488355328) ((0 + m.Issued.length + 1) * (96 : Nat) ≤ 140737488355328) (by simp only [List.length_map])
   (fun _h13 => .k (0 + (List.map encVersion m.Issued).length = (List.map encVersion m.Issued).length) (0 + m.Issued.length = m.Issued.length) (by simp only [List.length_map])
   (fun _h14 => have _w15 : List.take ((0 : Nat) + (List.map encVersion m.Issued).length + (1 : Nat)) (List.map encVersion m.Issued ++ [encVersion v]) = List.map encVersion m.Issued ++ [encVersion v] := List.take_of_length_le (by simp); .q (Res.mk
   (.agg [.int .i64 m.Size,.int .i64 m.Batch,.tree (List.map encEdge m.Edges),.tree (List.map encRepl (m.Repls.set (r.ID - 1).toNat r)),.tree (List.map encGram m.Fly),.tree (List.take (0 + (List.map encVersion m.Issued).length + 1) (List.map encVersion m.Issued ++ [encVersion v]))]) [] []) (by (simp [encMesh,encVersion,List.map_set,List.take_of_length_le, *]; done)))
   (fun _h14 => False.elim (by omega))) (fun _h13 => False.elim (by omega)))) (fun _h12 => False.elim (by omega))))) (.z encVersion m.Issued 8 (fun _ => rfl)
   (.k ((0 + (List.map encVersion m.Issued).length) * (96 : Nat) ≤ 140737488355328) ((0 + m.Issued.length) * (96 : Nat) ≤ 140737488355328) (by simp only [List.length_map]) (fun _h16 => .T
   (.k ((0 + (List.map encVersion m.Issued).length + 1) * (96 : Nat) ≤ 140737488355328) ((0 + m.Issued.length + 1) * (96 : Nat) ≤ 140737488355328) (by simp only [List.length_map])
   (fun _h17 => .k (0 + (List.map encVersion m.Issued).length = (List.map encVersion m.Issued).length) (0 + m.Issued.length = m.Issued.length) (by simp only [List.length_map])
   (fun _h18 => have _w19 : List.take ((0 : Nat) + (List.map encVersion m.Issued).length + (1 : Nat)) (List.map encVersion m.Issued ++ [encVersion v]) = List.map encVersion m.Issued ++ [encVersion v] := List.take_of_length_le (by simp); .q (Res.mk
   (.agg [.int .i64 m.Size,.int .i64 m.Batch,.tree (List.map encEdge m.Edges),.tree (List.map encRepl (m.Repls.set (r.ID - 1).toNat r)),.tree (List.map encGram m.Fly),.tree (List.take (0 + (List.map encVersion m.Issued).length + 1) (List.map encVersion m.Issued ++ [encVersion v]))]) [] []) (by (simp [encMesh,encVersion,List.map_set,List.take_of_length_le, *]; done)))
   (fun _h18 => False.elim (by omega))) (fun _h17 => False.elim (by omega)))) (fun _h16 => False.elim (by omega))))))
theorem c47 (m : Mesh) (s : Step) (h1 : 1 ≤ s.R) (h2 : s.R ≤ m.Repls.length) (hl : m.Repls.length ≤ 1000) (hi : m.Issued.length ≤ 10000) (hr : ∀ r ∈ m.Repls,r.Sm) (hid : ∀ r ∈ m.Repls,r.ID ≤ m.Repls.length)
    (ha : s.Attrs.length ≤ 1000) (ht : s.Tag.length ≤ 1000) (hb : s.Text.length ≤ 1000) : X.call 47 [encMesh m,encStep s] [] ⟨.tuple [encMesh (m.write parse s).1,.int .i64 (m.write parse s).2],[],[]⟩ := by
  refine spec_of ok Go.Proofs.Tryz.func47 ok47 ?_
  refine (have _w12 := wI64' (s.R - (1 : Int)); .k (0 ≤ IntKind.i64.wrap (s.R - 1)) (0 ≤ s.R - 1) (by simp only [_w12])
   (fun _h13 => .eM encRepl m.Repls ((IntKind.i64.wrap (s.R - 1)).toNat) ((s.R - 1).toNat) (by simp only [_w12]) (by omega)
   (fun _x14 _hx15 => have _hc16 := (hr _x14 (List.mem_of_getElem? _hx15)).1; have _hc17 := (hr _x14 (List.mem_of_getElem? _hx15)).2.1; have _hc18 := (hr _x14 (List.mem_of_getElem? _hx15)).2.2.1; have _hc19 := (hr _x14 (List.mem_of_getElem? _hx15)).2.2.2.1; have _hc20 := (hr _x14 (List.mem_of_getElem? _hx15)).2.2.2.2.1; have _hc21 := (hr _x14 (List.mem_of_getElem? _hx15)).2.2.2.2.2.1; have _hc22 := (hr _x14 (List.mem_of_getElem? _hx15)).2.2.2.2.2.2.1; have _hc23 := (hr _x14 (List.mem_of_getElem? _hx15)).2.2.2.2.2.2.2.1; have _hc24 := (hr _x14 (List.mem_of_getElem? _hx15)).2.2.2.2.2.2.2.2.1; have _hc25 := (hr _x14 (List.mem_of_getElem? _hx15)).2.2.2.2.2.2.2.2.2.1; have _hc26 := (hr _x14 (List.mem_of_getElem? _hx15)).2.2.2.2.2.2.2.2.2.2.1; have _hc27 := (hr _x14 (List.mem_of_getElem? _hx15)).2.2.2.2.2.2.2.2.2.2.2.1; have _hc28 := (hr _x14 (List.mem_of_getElem? _hx15)).2.2.2.2.2.2.2.2.2.2.2.2.1; have _hc29 := (hr _x14 (List.mem_of_getElem? _hx15)).2.2.2.2.2.2.2.2.2.2.2.2.2.1; have _hc30 := (hr _x14 (List.mem_of_getElem? _hx15)).2.2.2.2.2.2.2.2.2.2.2.2.2.2.1; have _hc31 := (hr _x14 (List.mem_of_getElem? _hx15)).2.2.2.2.2.2.2.2.2.2.2.2.2.2.2.1; have _hc32 := (hr _x14 (List.mem_of_getElem? _hx15)).2.2.2.2.2.2.2.2.2.2.2.2.2.2.2.2.1; have _hc33 := (hr _x14 (List.mem_of_getElem? _hx15)).2.2.2.2.2.2.2.2.2.2.2.2.2.2.2.2.2; have _hc34 := (hid _x14 (List.mem_of_getElem? _hx15)); .i (s.Kind = 3)
   (fun _h35 => .c (@Tryz.c79 (_x14) (s.Text) ‹_› ‹_› ‹_› ‹_› (by omega) ‹_› ‹_› ‹_› ‹_› ‹_›) (.j ((Repl.setFilter parse _x14 s.Text).snd = 0)
   (fun _h36 => .q (Res.mk (AV.tuple [encMesh m,.int .i64 (Repl.setFilter parse _x14 s.Text).snd]) [] []) (by (rw [write_at ‹_›]; simp [Mesh.writeR,encMesh, *]; done)))
   (fun _h36 => .c (@Tryz.c54 (m) ((Repl.setFilter parse _x14 s.Text).fst) (by (rw [setFilter_id]; omega)) (by (rw [setFilter_id]; omega)) ‹_›)
   (.q (Res.mk (AV.tuple [.agg [.int .i64 m.Size,.int .i64 m.Batch,.tree (List.map encEdge m.Edges),.tree (List.map encRepl (m.Repls.set ((Repl.setFilter parse _x14 s.Text).fst.ID - 1).toNat (Repl.setFilter parse _x14 s.Text).fst)),.tree (List.map encGram m.Fly),.tree (List.map encVersion m.Issued)],.int .i64 0]) [] []) (by (rw [write_at ‹_›]; simp [Mesh.writeR,encMesh, *]; done))))))
   (fun _h35 => .c (@Tryz.c58 (_x14) (s.Item) (s.Attrs) (s.Tag) (s.Text) ‹_› ‹_› ‹_› ‹_› ‹_› ‹_› (by omega) ‹_› ‹_› ‹_› ‹_› ‹_›) (.i (s.Kind = 2)
   (fun _h37 => .c (@Tryz.c80 (_x14) (s.Item) ‹_› ‹_› ‹_› (by omega) ‹_› ‹_› ‹_›) (.j ((_x14.delete s.Item).snd.snd = 0)
   (fun _h38 => .q (Res.mk (AV.tuple [encMesh m,.int .i64 (_x14.delete s.Item).snd.snd]) [] []) (by (rw [write_at ‹_›]; simp [Mesh.writeR,encMesh, *]; done)))
   (fun _h38 => .c (@Tryz.c81 (m) ((_x14.delete s.Item).fst) ((_x14.delete s.Item).snd.fst) (by (rw [delete_id]; omega)) (by (rw [delete_id]; omega)) ‹_› (by omega))
   (.q (Res.mk (AV.tuple [.agg [.int .i64 m.Size,.int .i64 m.Batch,.tree (List.map encEdge m.Edges),.tree (List.map encRepl (m.Repls.set ((_x14.delete s.Item).fst.ID - 1).toNat (_x14.delete s.Item).fst)),.tree (List.map encGram m.Fly),.tree (List.map encVersion (m.Issued ++ [(_x14.delete s.Item).snd.fst]))],.int .i64 0]) [] []) (by (rw [write_at ‹_›]; simp [Mesh.writeR,encMesh, *]; done))))))
   (fun _h37 => .j ((Repl.put parse _x14 s.Item s.Attrs s.Tag s.Text).snd.snd = 0)
   (fun _h39 => .q (Res.mk (AV.tuple [encMesh m,.int .i64 (Repl.put parse _x14 s.Item s.Attrs s.Tag s.Text).snd.snd]) [] []) (by (rw [write_at ‹_›]; simp [Mesh.writeR,encMesh, *]; done)))
   (fun _h39 => .c (@Tryz.c81 (m) ((Repl.put parse _x14 s.Item s.Attrs s.Tag s.Text).fst) ((Repl.put parse _x14 s.Item s.Attrs s.Tag s.Text).snd.fst) (by (rw [put_id]; omega)) (by (rw [put_id]; omega)) ‹_› (by omega))
   (.q (Res.mk (AV.tuple [.agg [.int .i64 m.Size,.int .i64 m.Batch,.tree (List.map encEdge m.Edges),.tree (List.map encRepl (m.Repls.set ((Repl.put parse _x14 s.Item s.Attrs s.Tag s.Text).fst.ID - 1).toNat (Repl.put parse _x14 s.Item s.Attrs s.Tag s.Text).fst)),.tree (List.map encGram m.Fly),.tree (List.map encVersion (m.Issued ++ [(Repl.put parse _x14 s.Item s.Attrs s.Tag s.Text).snd.fst]))],.int .i64 0]) [] []) (by (rw [write_at ‹_›]; simp [Mesh.writeR,encMesh, *]; done)))))))))
   (fun _h13 => False.elim (by omega)))
end Go.Ab.Tryz
