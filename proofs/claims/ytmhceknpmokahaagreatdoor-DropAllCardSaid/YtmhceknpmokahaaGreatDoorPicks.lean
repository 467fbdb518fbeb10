/- Package cardamomplay, its numbers: as plain Lean. -/
import Derived.Test.YtmhceknpmokahaaGreatDoorG2
import Derived.Test.YtmhceknpmokahaaGreatDoorAb
namespace Go.Ab.Tryz
open Go
set_option maxRecDepth 100000
set_option maxHeartbeats 4000000
theorem c17 (l:List UInt8):X.call 17 [.tree (l.map encB)] [] ⟨.ref (.out 0) 0 0,[],[.box (encPicks ⟨l,0⟩) true]⟩:=by
 refine spec_of ok Go.Proofs.Tryz.func17 ok17 ?_
 refine(Sat.pRet (Res.mk (AV.ref (Site.out (0:Nat)) (0:Nat) (0:Nat)) [] [Blk.box (AV.agg [AV.tree (List.map encB l),AV.int IntKind.i64 (0:Int)]) Bool.true]) (by kernel_rfl) rfl)
theorem _root_.Go.Ab.Picks.num_255 (p:Picks) (m:Int):(p.num m).1≤255:=by
 unfold Picks.num;split
 ·simp
 ·have h1:=UInt8.toNat_lt (p.l.getD p.n 0)
  have h2:=Int.emod_lt_of_pos ((p.l.getD p.n 0).toNat:Int) (b:=m) (by omega)
  by_cases h:m≤255
  ·simp only;omega
  ·simp only;rw[Int.emod_eq_of_lt (by omega) (by omega)];omega
theorem num_call (p:Picks) (m:Int) (hp:p.l.length≤100000) (hm:m≤100000):
  X.call 63 [.ref (.inc 0) 0 0,.int .i64 m] [.box (encPicks p) true] ⟨.int .i64 (p.num m).1,[.box (encPicks (p.num m).2) true],[]⟩:=by
 refine spec_of ok Go.Proofs.Tryz.func63 ok63 ?_
 refine(Sat.pIfE ((↑(List.map encB p.l).length:Int)≤(↑p.n:Int)) (p.l.length≤p.n) (by kernel_rfl) (by simp only[List.length_map,Int.ofNat_le]) (fun _h5=>
  (Sat.pIfET ((↑(List.map encB p.l).length:Int)≤(↑p.n:Int)) (p.l.length≤p.n) (by kernel_rfl) (by simp only[List.length_map,Int.ofNat_le]) _h5
  (Sat.pIfET ((↑(List.map encB p.l).length:Int)≤(↑p.n:Int)) (p.l.length≤p.n) (by kernel_rfl) (by simp only[List.length_map,Int.ofNat_le]) _h5 (Sat.pNodeT true (by kernel_rfl) rfl
  (Sat.pRet (Res.mk (AV.int IntKind.i64 (0:Int)) [Blk.box (AV.agg [AV.tree (List.map encB p.l),AV.int IntKind.i64 (↑p.n:Int)]) Bool.true] []) (by kernel_rfl) (by(simp_all[Picks.num,encPicks,List.getD];done)))))))
  (fun _h5=>(Sat.pIfEF ((↑(List.map encB p.l).length:Int)≤(↑p.n:Int)) (p.l.length≤p.n) (by kernel_rfl) (by simp only[List.length_map,Int.ofNat_le]) _h5
  (Sat.pIfEF ((↑(List.map encB p.l).length:Int)≤(↑p.n:Int)) (p.l.length≤p.n) (by kernel_rfl) (by simp only[List.length_map,Int.ofNat_le]) _h5 (Sat.pIf (m<(1:Int)) (by kernel_rfl)
  (fun _h6=>
  (Sat.pRet (Res.mk (AV.int IntKind.i64 (0:Int)) [Blk.box (AV.agg [AV.tree (List.map encB p.l),AV.int IntKind.i64 (↑p.n:Int)]) Bool.true] []) (by kernel_rfl) (by(simp_all[Picks.num,encPicks,List.getD];done))))
  (fun _h6=>(have _w7:IntKind.i64.wrap ((↑p.n:Int)+(1:Int))=(↑p.n:Int)+(1:Int):=wI64 (by omega) (by omega);
  (have _w8:IntKind.i64.wrap ((↑p.n:Int)+(1:Int)-(1:Int))=(↑p.n:Int)+(1:Int)-(1:Int):=wI64 (by omega) (by omega);
  (Sat.pIfE ((0:Int)≤IntKind.i64.wrap (IntKind.i64.wrap ((↑p.n:Int)+(1:Int))-(1:Int))) ((0:Int)≤(↑p.n:Int)+(1:Int)-(1:Int)) (by kernel_rfl) (by simp only[_w8,_w7])
  (fun _h9=>
  (Sat.pElemME (encB) (p.l) (List.map encB p.l) ((IntKind.i64.wrap (IntKind.i64.wrap ((↑p.n:Int)+(1:Int))-(1:Int))).toNat) (((↑p.n:Int)+(1:Int)-(1:Int)).toNat) (by kernel_rfl) (by simp only[_w8,_w7]) rfl (by omega)
  (fun a0 a2=>(Sat.pIfE (m≠(0:Int)) (¬m=(0:Int)) (by kernel_rfl) (by simp only []) (fun a1=>(have a3:a0.toNat<(256:Nat):=UInt8.toNat_lt _;
  (have a4:IntKind.i64.wrap (↑a0.toNat:Int)=(↑a0.toNat:Int):=wI64 (by omega) (by omega);
  (have a5:(↑a0.toNat:Int).tmod m=(↑a0.toNat:Int)%m:=Int.tmod_eq_emod_of_nonneg (by omega);
  (have a6:(0:Int)≤(↑a0.toNat:Int)%m∧(↑a0.toNat:Int)%m<m:=⟨Int.emod_nonneg _ (by omega),Int.emod_lt_of_pos _ (by omega)⟩;
  (Sat.pRet (Res.mk (AV.int IntKind.i64 ((IntKind.i64.wrap (↑a0.toNat:Int)).tmod m)) [Blk.box (AV.agg [AV.tree (List.map encB p.l),AV.int IntKind.i64 (IntKind.i64.wrap ((↑p.n:Int)+(1:Int)))]) Bool.true] []) (by kernel_rfl) (by grind [Picks.num,encPicks])))))))
  (fun a1=>False.elim (by omega)))))) (fun _h9=>False.elim (by omega)))))))))))
theorem c63 (p:Picks) (m:Int) (hp:p.l.length≤100000) (hm:m≤100000) (h1:1≤m):
  X.call 63 [.ref (.inc 0) 0 0,.int .i64 m] [.box (encPicks p) true] ⟨.int .i64 (p.num m).1,[.box (encPicks (p.num m).2) true],[]⟩∧(0≤(p.num m).1∧(p.num m).1<m∧(p.num m).2.l=p.l):=
 ⟨num_call p m hp hm,p.num_eq h1⟩
theorem c63a (p:Picks) (m:Int) (hp:p.l.length≤100000) (hm:m≤100000):
  X.call 63 [.ref (.inc 0) 0 0,.int .i64 m] [.box (encPicks p) true] ⟨.int .i64 (p.num m).1,[.box (encPicks (p.num m).2) true],[]⟩∧(0≤(p.num m).1∧(p.num m).1≤255∧(p.num m).2.l=p.l):=
 ⟨num_call p m hp hm,p.num_lo m,p.num_255 m,p.num_l m⟩
theorem c67 (p:Picks) (hp:p.l.length≤100000):
  X.call 67 [.ref (.inc 0) 0 0] [.box (encPicks p) true] ⟨.str p.tag.1,[.box (encPicks p.tag.2) true],[]⟩:=by
 refine spec_of ok Go.Proofs.Tryz.func67 ok67 ?_
 refine(have a0:=((@Go.Ab.Tryz.c63 (p) ((6:Int)) (by assumption) (by omega) (by omega))).2.1;(have a1:=((@Go.Ab.Tryz.c63 (p) ((6:Int)) (by assumption) (by omega) (by omega))).2.2.1;
  (have a2:=((@Go.Ab.Tryz.c63 (p) ((6:Int)) (by assumption) (by omega) (by omega))).2.2.2;
  (Sat.pCallE 63 ([AV.ref (Site.inc (0:Nat)) (0:Nat) (0:Nat),AV.int IntKind.i64 (6:Int)]) ([Blk.box (AV.agg [AV.tree (List.map encB p.l),AV.int IntKind.i64 (↑p.n:Int)]) Bool.true]) (by kernel_rfl) rfl rfl ((@Go.Ab.Tryz.c63 (p) ((6:Int)) (by assumption) (by omega) (by omega))).1
  (Sat.pIf ((0:Int)≤(p.num (6:Int)).fst∧(p.num (6:Int)).fst<(6:Int)) (by kernel_rfl) (fun _h6=>
  (Sat.pElemM (AV.str) ([[],[(97:UInt8)],[(97:UInt8),(98:UInt8)],[(97:UInt8),(98:UInt8),(99:UInt8)],[(98:UInt8)],[(98:UInt8),(97:UInt8)]]) ([AV.str [],AV.str [(97:UInt8)],AV.str [(97:UInt8),(98:UInt8)],AV.str [(97:UInt8),(98:UInt8),(99:UInt8)],AV.str [(98:UInt8)],AV.str [(98:UInt8),(97:UInt8)]]) ((p.num (6:Int)).fst.toNat) (by kernel_rfl) rfl (by(simp;omega))
  (fun _x7 a3=>
  (Sat.pRet (Res.mk (AV.str _x7) [Blk.box (AV.agg [AV.tree (List.map encB (p.num (6:Int)).snd.l),AV.int IntKind.i64 (↑(p.num (6:Int)).snd.n:Int)]) Bool.true] []) (by kernel_rfl) (by(simp_all[Picks.tag,tags,encPicks];done))))))
  (fun _h6=>False.elim (by omega)))))))
end Go.Ab.Tryz
