/- Package cardamomref25: writes, as plain Lean. -/
import Derived.Test.YtmppanboolejjaaGreatRef11b
import Derived.Test.YtmppanboolejjaaGreatRef20b
import Derived.Test.YtmppanboolejjaaGreatG3
namespace Go.Ab.Tryz
open Go
set_option maxRecDepth 100000
set_option maxHeartbeats 4000000
theorem c54 (m : Mesh) (r : Repl) (h1 : 1 ≤ r.ID) (h2 : r.ID ≤ m.Repls.length) (hl : m.Repls.length ≤ 1000) : X.call 54 [encMesh m,encRepl r] [] ⟨encMesh (m.with_ r),[],[]⟩ := by
  refine spec_of ok Go.Proofs.Tryz.func54 ok54 ?_
  refine (.z encRepl m.Repls 7 (fun _ => rfl)
   (.k ((0 + (List.map encRepl m.Repls).length) * (88 : Nat) ≤ 140737488355328) ((0 + m.Repls.length) * (88 : Nat) ≤ 140737488355328) (by simp only [List.length_map]) (fun _h6 => .T
   (have _w7 := wI64' (r.ID - (1 : Int)); .k (0 ≤ IntKind.i64.wrap (r.ID - 1) ∧ IntKind.i64.wrap (r.ID - 1) < (↑(0 + (List.map encRepl m.Repls).length) : Int)) (0 ≤ r.ID - 1 ∧ r.ID - 1 < (↑(0 + m.Repls.length) : Int)) (by simp only [List.length_map,_w7])
   (fun _h8 => .eM encRepl m.Repls ((IntKind.i64.wrap (r.ID - 1)).toNat) ((r.ID - 1).toNat) (by simp only [_w7]) (by omega)
   (fun _x9 _hx10 => have _w11 : List.take ((0 : Nat) + (List.map encRepl m.Repls).length) ((List.map encRepl m.Repls).set (r.ID - (1 : Int)).toNat (encRepl r)) = (List.map encRepl m.Repls).set (r.ID - (1 : Int)).toNat (encRepl r) := List.take_of_length_le (by simp); .q (Res.mk
   (.agg [.int .i64 m.Size,.int .i64 m.Batch,.tree (List.map encEdge m.Edges),.tree (List.take (0 + (List.map encRepl m.Repls).length) ((List.map encRepl m.Repls).set (IntKind.i64.wrap (r.ID - 1)).toNat (encRepl r))),.tree (List.map encGram m.Fly),.tree (List.map encVersion m.Issued)]) [] []) (by (simp [encMesh,List.map_set,List.take_of_length_le, *]; done))))
   (fun _h8 => False.elim (by omega)))) (fun _h6 => False.elim (by omega))))
theorem c81 (m : Mesh) (r : Repl) (v : Version) (h1 : 1 ≤ r.ID) (h2 : r.ID ≤ m.Repls.length) (hl : m.Repls.length ≤ 1000) (hi : m.Issued.length ≤ 100000) : X.call 81 [encMesh m,encRepl r,encVersion v] [] ⟨encMesh (m.wrote r v),[],[]⟩ := by
  refine spec_of ok Go.Proofs.Tryz.func81 ok81 ?_
  refine (.c (@Tryz.c54 (m) (r) ‹_› ‹_› ‹_›) (.b (.b (.z encVersion m.Issued 8 (fun _ => rfl)
   (.k ((0 + (List.map encVersion m.Issued).length) * (96 : Nat) ≤ 140737488355328) ((0 + m.Issued.length) * (96 : Nat) ≤ 140737488355328) (by simp only [List.length_map]) (fun _h8 => .T
   (.k ((0 + (List.map encVersion m.Issued).length + 1) * (96 : Nat) ≤ 140737488355328) ((0 + m.Issued.length + 1) * (96 : Nat) ≤ 140737488355328) (by simp only [List.length_map])
   (fun _h9 => .k (0 + (List.map encVersion m.Issued).length = (List.map encVersion m.Issued).length) (0 + m.Issued.length = m.Issued.length) (by simp only [List.length_map])
   (fun _h10 => have _w11 : List.take ((0 : Nat) + (List.map encVersion m.Issued).length + (1 : Nat)) (List.map encVersion m.Issued ++ [encVersion v]) = List.map encVersion m.Issued ++ [encVersion v] := List.take_of_length_le (by simp); .q (Res.mk
   (.agg [.int .i64 m.Size,.int .i64 m.Batch,.tree (List.map encEdge m.Edges),.tree (List.map encRepl (m.Repls.set (r.ID - 1).toNat r)),.tree (List.map encGram m.Fly),.tree (List.take (0 + (List.map encVersion m.Issued).length + 1) (List.map encVersion m.Issued ++ [encVersion v]))]) [] []) (by (simp [encMesh,encVersion,List.map_set,List.take_of_length_le, *]; done)))
   (fun _h10 => False.elim (by omega))) (fun _h9 => False.elim (by omega)))) (fun _h8 => False.elim (by omega)))) (.z encVersion m.Issued 8 (fun _ => rfl)
   (.k ((0 + (List.map encVersion m.Issued).length) * (96 : Nat) ≤ 140737488355328) ((0 + m.Issued.length) * (96 : Nat) ≤ 140737488355328) (by simp only [List.length_map]) (fun _h12 => .T
   (.k ((0 + (List.map encVersion m.Issued).length + 1) * (96 : Nat) ≤ 140737488355328) ((0 + m.Issued.length + 1) * (96 : Nat) ≤ 140737488355328) (by simp only [List.length_map])
   (fun _h13 => .k (0 + (List.map encVersion m.Issued).length = (List.map encVersion m.Issued).length) (0 + m.Issued.length = m.Issued.length) (by simp only [List.length_map])
   (fun _h14 => have _w15 : List.take ((0 : Nat) + (List.map encVersion m.Issued).length + (1 : Nat)) (List.map encVersion m.Issued ++ [encVersion v]) = List.map encVersion m.Issued ++ [encVersion v] := List.take_of_length_le (by simp); .q (Res.mk
   (.agg [.int .i64 m.Size,.int .i64 m.Batch,.tree (List.map encEdge m.Edges),.tree (List.map encRepl (m.Repls.set (r.ID - 1).toNat r)),.tree (List.map encGram m.Fly),.tree (List.take (0 + (List.map encVersion m.Issued).length + 1) (List.map encVersion m.Issued ++ [encVersion v]))]) [] []) (by (simp [encMesh,encVersion,List.map_set,List.take_of_length_le, *]; done)))
   (fun _h14 => False.elim (by omega))) (fun _h13 => False.elim (by omega)))) (fun _h12 => False.elim (by omega))))) (.z encVersion m.Issued 8 (fun _ => rfl)
   (.k ((0 + (List.map encVersion m.Issued).length) * (96 : Nat) ≤ 140737488355328) ((0 + m.Issued.length) * (96 : Nat) ≤ 140737488355328) (by simp only [List.length_map]) (fun _h16 => .T
   (.k ((0 + (List.map encVersion m.Issued).length + 1) * (96 : Nat) ≤ 140737488355328) ((0 + m.Issued.length + 1) * (96 : Nat) ≤ 140737488355328) (by simp only [List.length_map])
   (fun _h17 => .k (0 + (List.map encVersion m.Issued).length = (List.map encVersion m.Issued).length) (0 + m.Issued.length = m.Issued.length) (by simp only [List.length_map])
   (fun _h18 => have _w19 : List.take ((0 : Nat) + (List.map encVersion m.Issued).length + (1 : Nat)) (List.map encVersion m.Issued ++ [encVersion v]) = List.map encVersion m.Issued ++ [encVersion v] := List.take_of_length_le (by simp); .q (Res.mk
   (.agg [.int .i64 m.Size,.int .i64 m.Batch,.tree (List.map encEdge m.Edges),.tree (List.map encRepl (m.Repls.set (r.ID - 1).toNat r)),.tree (List.map encGram m.Fly),.tree (List.take (0 + (List.map encVersion m.Issued).length + 1) (List.map encVersion m.Issued ++ [encVersion v]))]) [] []) (by (simp [encMesh,encVersion,List.map_set,List.take_of_length_le, *]; done)))
   (fun _h18 => False.elim (by omega))) (fun _h17 => False.elim (by omega)))) (fun _h16 => False.elim (by omega))))))
theorem c47 (m : Mesh) (s : Step) (h1 : 1 ≤ s.R) (h2 : s.R ≤ m.Repls.length) (hl : m.Repls.length ≤ 1000) (hi : m.Issued.length ≤ 10000) (hr : ∀ r ∈ m.Repls,r.Sm) (hid : ∀ r ∈ m.Repls,r.ID ≤ m.Repls.length)
    (ha : s.Attrs.length ≤ 1000) (ht : s.Tag.length ≤ 1000) (hb : s.Text.length ≤ 1000) : X.call 47 [encMesh m,encStep s] [] ⟨.tuple [encMesh (m.write parse s).1,.int .i64 (m.write parse s).2],[],[]⟩ := by
  refine spec_of ok Go.Proofs.Tryz.func47 ok47 ?_
  refine (have _w12 := wI64' (s.R - (1 : Int)); .k (0 ≤ IntKind.i64.wrap (s.R - 1)) (0 ≤ s.R - 1) (by simp only [_w12])
   (fun _h13 => .eM encRepl m.Repls ((IntKind.i64.wrap (s.R - 1)).toNat) ((s.R - 1).toNat) (by simp only [_w12]) (by omega)
   (fun _x14 _hx15 => have _hc16 := (hr _x14 (List.mem_of_getElem? _hx15)).1; have _hc17 := (hr _x14 (List.mem_of_getElem? _hx15)).2.1; have _hc18 := (hr _x14 (List.mem_of_getElem? _hx15)).2.2.1; have _hc19 := (hr _x14 (List.mem_of_getElem? _hx15)).2.2.2.1; have _hc20 := (hr _x14 (List.mem_of_getElem? _hx15)).2.2.2.2.1; have _hc21 := (hr _x14 (List.mem_of_getElem? _hx15)).2.2.2.2.2.1; have _hc22 := (hr _x14 (List.mem_of_getElem? _hx15)).2.2.2.2.2.2.1; have _hc23 := (hr _x14 (List.mem_of_getElem? _hx15)).2.2.2.2.2.2.2.1; have _hc24 := (hr _x14 (List.mem_of_getElem? _hx15)).2.2.2.2.2.2.2.2.1; have _hc25 := (hr _x14 (List.mem_of_getElem? _hx15)).2.2.2.2.2.2.2.2.2.1; have _hc26 := (hr _x14 (List.mem_of_getElem? _hx15)).2.2.2.2.2.2.2.2.2.2.1; have _hc27 := (hr _x14 (List.mem_of_getElem? _hx15)).2.2.2.2.2.2.2.2.2.2.2.1; have _hc28 := (hr _x14 (List.mem_of_getElem? _hx15)).2.2.2.2.2.2.2.2.2.2.2.2.1; have _hc29 := (hr _x14 (List.mem_of_getElem? _hx15)).2.2.2.2.2.2.2.2.2.2.2.2.2.1; have _hc30 := (hr _x14 (List.mem_of_getElem? _hx15)).2.2.2.2.2.2.2.2.2.2.2.2.2.2.1; have _hc31 := (hr _x14 (List.mem_of_getElem? _hx15)).2.2.2.2.2.2.2.2.2.2.2.2.2.2.2.1; have _hc32 := (hr _x14 (List.mem_of_getElem? _hx15)).2.2.2.2.2.2.2.2.2.2.2.2.2.2.2.2.1; have _hc33 := (hr _x14 (List.mem_of_getElem? _hx15)).2.2.2.2.2.2.2.2.2.2.2.2.2.2.2.2.2; have _hc34 := (hid _x14 (List.mem_of_getElem? _hx15)); .i (s.Kind = 3)
   (fun _h35 => .c (@Tryz.c79 (_x14) (s.Text) ‹_› ‹_› ‹_› ‹_› (by omega) ‹_› ‹_› ‹_› ‹_› ‹_›) (.j ((Repl.setFilter parse _x14 s.Text).snd = 0)
   (fun _h36 => .q (Res.mk (AV.tuple [encMesh m,.int .i64 (Repl.setFilter parse _x14 s.Text).snd]) [] []) (by (rw [write_at ‹_›]; simp [Mesh.writeR,encMesh, *]; done)))
   (fun _h36 => .c (@Tryz.c54 (m) ((Repl.setFilter parse _x14 s.Text).fst) (by (rw [setFilter_id]; omega)) (by (rw [setFilter_id]; omega)) ‹_›)
   (.q (Res.mk (AV.tuple [.agg [.int .i64 m.Size,.int .i64 m.Batch,.tree (List.map encEdge m.Edges),.tree (List.map encRepl (m.Repls.set ((Repl.setFilter parse _x14 s.Text).fst.ID - 1).toNat (Repl.setFilter parse _x14 s.Text).fst)),.tree (List.map encGram m.Fly),.tree (List.map encVersion m.Issued)],.int .i64 0]) [] []) (by (rw [write_at ‹_›]; simp [Mesh.writeR,encMesh, *]; done))))))
   (fun _h35 => .c (@Tryz.c58 (_x14) (s.Item) (s.Attrs) (s.Tag) (s.Text) ‹_› ‹_› ‹_› ‹_› ‹_› ‹_› (by omega) ‹_› ‹_› ‹_› ‹_› ‹_›) (.i (s.Kind = 2)
   (fun _h37 => .c (@Tryz.c80 (_x14) (s.Item) ‹_› ‹_› ‹_› (by omega) ‹_› ‹_› ‹_›) (.j ((_x14.delete s.Item).snd.snd = 0)
   (fun _h38 => .q (Res.mk (AV.tuple [encMesh m,.int .i64 (_x14.delete s.Item).snd.snd]) [] []) (by (rw [write_at ‹_›]; simp [Mesh.writeR,encMesh, *]; done)))
   (fun _h38 => .c (@Tryz.c81 (m) ((_x14.delete s.Item).fst) ((_x14.delete s.Item).snd.fst) (by (rw [delete_id]; omega)) (by (rw [delete_id]; omega)) ‹_› (by omega))
   (.q (Res.mk (AV.tuple [.agg [.int .i64 m.Size,.int .i64 m.Batch,.tree (List.map encEdge m.Edges),.tree (List.map encRepl (m.Repls.set ((_x14.delete s.Item).fst.ID - 1).toNat (_x14.delete s.Item).fst)),.tree (List.map encGram m.Fly),.tree (List.map encVersion (m.Issued ++ [(_x14.delete s.Item).snd.fst]))],.int .i64 0]) [] []) (by (rw [write_at ‹_›]; simp [Mesh.writeR,encMesh, *]; done))))))
   (fun _h37 => .j ((Repl.put parse _x14 s.Item s.Attrs s.Tag s.Text).snd.snd = 0)
   (fun _h39 => .q (Res.mk (AV.tuple [encMesh m,.int .i64 (Repl.put parse _x14 s.Item s.Attrs s.Tag s.Text).snd.snd]) [] []) (by (rw [write_at ‹_›]; simp [Mesh.writeR,encMesh, *]; done)))
   (fun _h39 => .c (@Tryz.c81 (m) ((Repl.put parse _x14 s.Item s.Attrs s.Tag s.Text).fst) ((Repl.put parse _x14 s.Item s.Attrs s.Tag s.Text).snd.fst) (by (rw [put_id]; omega)) (by (rw [put_id]; omega)) ‹_› (by omega))
   (.q (Res.mk (AV.tuple [.agg [.int .i64 m.Size,.int .i64 m.Batch,.tree (List.map encEdge m.Edges),.tree (List.map encRepl (m.Repls.set ((Repl.put parse _x14 s.Item s.Attrs s.Tag s.Text).fst.ID - 1).toNat (Repl.put parse _x14 s.Item s.Attrs s.Tag s.Text).fst)),.tree (List.map encGram m.Fly),.tree (List.map encVersion (m.Issued ++ [(Repl.put parse _x14 s.Item s.Attrs s.Tag s.Text).snd.fst]))],.int .i64 0]) [] []) (by (rw [write_at ‹_›]; simp [Mesh.writeR,encMesh, *]; done)))))))))
   (fun _h13 => False.elim (by omega)))
theorem c22 (size : Int) (edges : List Edge) (batch quota : Int) (hl : edges.length ≤ 10000) : ∃ p : Mesh × Bool,X.call 22 [.int .i64 size,.tree (edges.map encEdge),.int .i64 batch,.int .i64 quota] [] ⟨.tuple [encMesh p.1,.bool p.2],[],[]⟩ ∧ (p.2 = false → p.1 = Mesh.zero) ∧ (p.2 = true → 1 ≤ size ∧ size ≤ 5 ∧ 1 ≤ batch ∧ batch ≤ 4 ∧ 0 ≤ quota ∧ quota ≤ 8 ∧ (∀ e ∈ edges,1 ≤ e.A ∧ e.A < e.B ∧ e.B ≤ size) ∧ p.1 = newMesh size.toNat edges batch quota) := by
  refine spec_ex ok Go.Proofs.Tryz.func22 ok22 ?_
  refine (Exists.elim (@Tryz.c45 (size) (edges) (by omega)) (fun _y6 ⟨_hz7,_hc8⟩ => .c _hz7 (.m _y6 (fun _h9 => .y _h9 (.y _h9 (.T (.T (.T (.T (.T (.T (.T (.T (.T (.T
   (.r (Mesh.mk 0 0 [] [] [] [],false) ⟨(by dsimp only; trivial),(by dsimp only; simp)⟩)))))))))))))
   (fun _h9 => have _hc10 := (_hc8 _h9).1; have _hc11 := (_hc8 _h9).2.1; have _hc12 := (_hc8 _h9).2.2; .x _h9 (.x _h9 (.i (batch < 1) (fun _h13 => .it _h13 (.it _h13 (.T (.T (.T (.T (.T (.T (.T
   (.r (Mesh.mk 0 0 [] [] [] [],false) ⟨(by dsimp only; trivial),(by dsimp only; simp)⟩)))))))))) (fun _h13 => .iF _h13 (.iF _h13 (.i (4 < batch) (fun _h14 => .it _h14 (.it _h14 (.T (.T (.T (.T
   (.r (Mesh.mk 0 0 [] [] [] [],false) ⟨(by dsimp only; trivial),(by dsimp only; simp)⟩))))))) (fun _h14 => .iF _h14 (.iF _h14 (.i (quota < 0) (fun _h15 => .it _h15 (.it _h15 (.T
   (.r (Mesh.mk 0 0 [] [] [] [],false) ⟨(by dsimp only; trivial),(by dsimp only; simp)⟩)))) (fun _h15 => .iF _h15 (.iF _h15 (.i (8 < quota)
   (fun _h16 => .r (Mesh.mk 0 0 [] [] [] [],false) ⟨(by dsimp only; trivial),(by dsimp only; simp)⟩) (fun _h16 => .z encEdge edges 2 (fun _ => rfl)
   (.k ((0 + (List.map encEdge edges).length) * (16 : Nat) ≤ 140737488355328) ((0 + edges.length) * (16 : Nat) ≤ 140737488355328) (by simp only [List.length_map]) (fun _h17 => .T ?_)
   (fun _h17 => False.elim (by omega)))))))))))))))))))
  obtain ⟨n,rfl⟩ := Int.eq_ofNat_of_zero_le (by omega : 0 ≤ size)
  refine SatE.pUnroll 5 (St.mk [(0,.int .i64 (↑n : Int)),(3,.int .i64 quota),(8,.ref (.head 8 0) 0 0),(10,.ref (.head 10 0) 0 0),(11,.int .i64 1)] [(.head 8 0,.box
   (.agg [.int .i64 0,.int .i64 0,.nils,.nils,.nils,.nils]) true),(.head 10 0,.box (.agg [.int .i64 (↑n : Int),.int .i64 batch,.sref
   (.head 10 1) 0 (0 + (List.map encEdge edges).length),.nils,.nils,.nils]) true),(.head 10 1,.row 2 (List.map encEdge edges) true true)]) (by kernel_rfl) ?_
  refine (.k (1 ≤ (↑n : Int)) (1 ≤ n) (by simp only [ciLe]) (fun _h24 => .c (@Tryz.c46 ((1 : Nat)) (n) (quota) (by omega) ‹_› (by omega) (by omega) (by omega)) (.T
   (have _w25 := wI64' ((1 : Int) + (1 : Int)); ?_))) (fun _h24 => False.elim (by omega)))
  refine SatE.pLoop 5 (St.mk [(0,.int .i64 (↑n : Int)),(3,.int .i64 quota),(8,.ref (.head 8 0) 0 0),(10,.ref (.head 10 0) 0 0),(11,.int .i64 (IntKind.i64.wrap (1 + 1)))] [(.head 8 0,.box
   (.agg [.int .i64 0,.int .i64 0,.nils,.nils,.nils,.nils]) true),(.head 10 0,.box (.agg [.int .i64 (↑n : Int),.int .i64 batch,.sref (.head 10 1) 0 (0 + (List.map encEdge edges).length),.sref
   (.head 10 2) 0 1,.nils,.nils]) true),(.head 10 1,.row 2 (List.map encEdge edges) true true),
   (.head 10 2,.row 7 [encRepl (newRepl 1 n quota)] true true)]) (by kernel_rfl) (fun (p : Nat × List Repl) => ⟨[(0,.int .i64 n),(3,.int .i64 quota),(8,.ref (.head 8 0) 0 0),(10,.ref
   (.head 10 0) 0 0),(11,.int .i64 p.1)],[(.head 8 0,.box (.agg [.int .i64 0,.int .i64 0,.nils,.nils,.nils,.nils]) true),(.head 10 0,.box (.agg [.int .i64 n,.int .i64 batch,.sref
   (.head 10 1) 0 edges.length,.sref (.head 10 2) 0 p.2.length,.nils,.nils]) true),(.head 10 1,.row 2 (edges.map encEdge) true true),
   (.head 10 2,.row 7 (p.2.map encRepl) true true)]⟩) (fun p => 2 ≤ p.1 ∧ p.1 ≤ n + 1 ∧ p.2 = (List.range (p.1 - 1)).map fun i => newRepl (i + 1) n quota) (fun p => n + 1 - p.1) (2,[newRepl 1 n quota]) (by (simp [encRepl,show IntKind.i64.wrap 2 = 2 from rfl]; done)) ?_ ?_
  · exact ⟨by simp,by dsimp only; omega,rfl⟩
  · rintro ⟨k,rs⟩ hI again
    obtain ⟨k1,k2,k3⟩ := hI
    simp only at k1 k2 k3
    have k4 : rs.length + 1 = k := by rw [k3]; simp; omega
    have k5 : (List.range k).map (fun i => newRepl (i + 1) n quota) = (List.range (k - 1)).map (fun i => newRepl (i + 1) n quota) ++ [newRepl k n quota] := by
      obtain ⟨j,rfl⟩ : ∃ j,k = j + 1 := ⟨k - 1,by omega⟩
      rw [List.range_succ,List.map_append]; simp
    refine (.k ((↑k : Int) ≤ (↑n : Int)) (k ≤ n) (by simp only [Int.ofNat_le]) (fun _h35 => .c (@Tryz.c46 (k) (n) (quota) (by omega) ‹_› (by omega) (by omega) (by omega))
     (.i ((rs.length + 1) * (88 : Nat) ≤ 140737488355328) (fun _h36 => .k (rs.length = (List.map encRepl rs).length) (True) (by simp only [List.length_map])
     (fun _h37 => have _w38 := wI64' ((↑k : Int) + (1 : Int)); .A (St.mk [(0,.int .i64 (↑n : Int)),(3,.int .i64 quota),(8,.ref (.head 8 0) 0 0),(10,.ref
     (.head 10 0) 0 0),(11,.int .i64 (IntKind.i64.wrap ((↑k : Int) + 1)))] [(.head 8 0,.box (.agg [.int .i64 0,.int .i64 0,.nils,.nils,.nils,.nils]) true),(.head 10 0,.box
     (.agg [.int .i64 (↑n : Int),.int .i64 batch,.sref (.head 10 1) 0 edges.length,.sref (.head 10 2) 0 (rs.length + 1),.nils,.nils]) true),(.head 10 1,.row 2 (List.map encEdge edges) true true),
     (.head 10 2,.row 7 (List.map encRepl rs ++ [encRepl (newRepl k n quota)]) true true)]) (by simp [encRepl,_w38]) (again ((k + (1 : Nat),rs ++ [newRepl k n quota])) ⟨(by dsimp only; omega),⟨(by dsimp only; omega),(by dsimp only; (clear again; (rw [Nat.add_sub_cancel,k5,← k3])))⟩⟩ (by dsimp only; omega)))
     (fun _h37 => (_h37 trivial).elim)) (fun _h36 => False.elim (by omega))))
     (fun _h35 => have _w39 : List.take edges.length (List.map encEdge edges) = List.map encEdge edges := List.take_of_length_le (by simp); have _w40 : List.take rs.length (List.map encRepl rs) = List.map encRepl rs := List.take_of_length_le (by simp); .q (Res.mk (AV.tuple [.agg [.int .i64 (↑n : Int),.int .i64 batch,.tree (List.take edges.length (List.map encEdge edges)),.tree (List.take rs.length (List.map encRepl rs)),.tree [],.tree []],.bool true]) [] []) ⟨(Mesh.mk (↑n : Int) batch edges rs [] [],Bool.true),(by simp [encMesh,_w40,_w39]),⟨(by dsimp only; simp),(by dsimp only; (clear again; (intro _; refine ⟨by omega,by omega,by omega,by omega,by omega,by omega,by assumption, ?_⟩; rw [show k - 1 = n by omega] at k3; simp [newMesh,← k3])))⟩⟩))
end Go.Ab.Tryz
