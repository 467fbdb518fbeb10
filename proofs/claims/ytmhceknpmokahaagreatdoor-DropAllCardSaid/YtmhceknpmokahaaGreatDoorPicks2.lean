/- Package cardamomplay, versions of numbers: as plain Lean. -/
import Derived.Test.YtmhceknpmokahaaGreatDoorG2
import Derived.Test.YtmhceknpmokahaaGreatDoorPicks
namespace Go.Ab.Tryz
open Go
set_option maxRecDepth 100000
set_option maxHeartbeats 4000000
theorem c65 (p:Picks) (hp:p.l.length≤100000):
  X.call 65 [.ref (.inc 0) 0 0] [.box (encPicks p) true] ⟨encStamp p.stamp.1,[.box (encPicks p.stamp.2) true],[]⟩:=by
 refine spec_of ok Go.Proofs.Tryz.func65 ok65 ?_
 refine(have⟨h0,a0,a1,a2⟩:=@c63 p 9 (by assumption) (by omega) (by omega);
  (Sat.pCallE 63 ([.ref (.inc 0) 0 0,.int .i64 9]) ([.box (.agg [.tree (List.map encB p.l),.int .i64 (↑p.n:Int)]) true]) (by kernel_rfl) rfl rfl h0
  (have⟨h1,a3,a4,a5⟩:=@c63 ((p.num (9:Int)).snd) 3 (by(simp_all[Picks.stamp,encStamp,encPicks];done)) (by omega) (by omega);
  (Sat.pCallE 63 ([.ref (.inc 0) 0 0,.int .i64 3]) ([.box (.agg [.tree (List.map encB (p.num (9:Int)).snd.l),.int .i64 (↑(p.num (9:Int)).snd.n:Int)]) true]) (by kernel_rfl) rfl rfl h1
  (have _w9:IntKind.i64.wrap ((1:Int)+(p.num (9:Int)).fst)=(1:Int)+(p.num (9:Int)).fst:=wI64 (by omega) (by omega);
  (have⟨h2,a6,a7,a8⟩:=@c63 (((p.num (9:Int)).snd.num (3:Int)).snd) ((1:Int)+(p.num (9:Int)).fst) (by(simp_all[Picks.stamp,encStamp,encPicks];done)) (by omega) (by omega);
  (Sat.pCallE 63 ([.ref (.inc 0) 0 0,.int .i64 (IntKind.i64.wrap ((1:Int)+(p.num (9:Int)).fst))]) ([.box (.agg [.tree (List.map encB ((p.num (9:Int)).snd.num (3:Int)).snd.l),.int .i64 (↑((p.num (9:Int)).snd.num (3:Int)).snd.n:Int)]) true]) (by kernel_rfl) (by simp only[_w9]) rfl h2
  (have a9:IntKind.i64.wrap ((1:Int)+((p.num (9:Int)).snd.num (3:Int)).fst)=(1:Int)+((p.num (9:Int)).snd.num (3:Int)).fst:=wI64 (by omega) (by omega);
  (have aa:IntKind.i64.wrap ((1:Int)+(((p.num (9:Int)).snd.num (3:Int)).snd.num ((1:Int)+(p.num (9:Int)).fst)).fst)=(1:Int)+(((p.num (9:Int)).snd.num (3:Int)).snd.num ((1:Int)+(p.num (9:Int)).fst)).fst:=wI64 (by omega) (by omega);
  (Sat.pRet (Res.mk (.agg [.int .i64 (IntKind.i64.wrap ((1:Int)+(p.num (9:Int)).fst)),.int .i64 (IntKind.i64.wrap ((1:Int)+((p.num (9:Int)).snd.num (3:Int)).fst)),.int .i64 (IntKind.i64.wrap ((1:Int)+(((p.num (9:Int)).snd.num (3:Int)).snd.num ((1:Int)+(p.num (9:Int)).fst)).fst))]) [.box (.agg [.tree (List.map encB (((p.num (9:Int)).snd.num (3:Int)).snd.num ((1:Int)+(p.num (9:Int)).fst)).snd.l),.int .i64 (↑(((p.num (9:Int)).snd.num (3:Int)).snd.num ((1:Int)+(p.num (9:Int)).fst)).snd.n:Int)]) true] []) (by kernel_rfl) (by(simp_all[Picks.stamp,encStamp,encPicks];done))))))))))))
theorem c66 (p:Picks) (hp:p.l.length≤100000):
  X.call 66 [.ref (.inc 0) 0 0] [.box (encPicks p) true] ⟨.tree (p.attrs.1.map encAttr),[.box (encPicks p.attrs.2) true],[]⟩:=by
 refine spec_of ok Go.Proofs.Tryz.func66 ok66 ?_
 refine ?_
 refine Sat.pLoop 3 (St.mk [(0,.ref (.inc 0) 0 0),(3,.sref (.head 3 0) 0 0),(4,.int .i64 0)] [(.inc 0,.box (encPicks p) true),
  (.head 3 0,.row 2 [] true true)]) (by kernel_rfl) (fun(s:Nat×Picks×List Attr)=>⟨[(0,.ref (.inc 0) 0 0),(3,.sref
  (.head 3 0) 0 s.2.2.length),(4,.int .i64 s.1)],[(.inc 0,.box (encPicks s.2.1) true),
  (.head 3 0,.row 2 (s.2.2.map encAttr) true true)]⟩) (fun s=>s.1≤4∧s.2.2.length≤3∧s.2.1.l=p.l∧p.attrs=s.2.1.attrsAt (5-s.1) s.1 s.2.2) (fun s=>5-s.1) (0,p,[]) rfl ?_ ?_
 ·exact⟨by omega,by simp,rfl,rfl⟩
 ·rintro⟨k,q,l⟩ hI again
  obtain⟨hk,hl,hq,hs⟩:=hI
  simp only at hk hl hq hs
  have hql:q.l.length≤100000:=by rw[hq];exact hp
  obtain⟨f,hf⟩:∃f,5-k=f+1:=⟨4-k,by omega⟩
  rw[hf]at hs
  have hf2:5-(k+1)=f:=by omega
  have hf3:4-k=f:=by omega
  refine(Sat.pIfE ((↑k:Int)<(4:Int)) (k<(4:Nat)) (by kernel_rfl) (by simp only[icLt]) (fun a0=>
   (Sat.pIfET ((↑k:Int)<(4:Int)) (k<(4:Nat)) (by kernel_rfl) (by simp only[icLt]) a0 (Sat.pIfET ((↑k:Int)<(4:Int)) (k<(4:Nat)) (by kernel_rfl) (by simp only[icLt]) a0
   (Sat.pIfET ((↑k:Int)<(4:Int)) (k<(4:Nat)) (by kernel_rfl) (by simp only[icLt]) a0 (Sat.pIfE ((↑l.length:Int)<(3:Int)) (l.length<(3:Nat)) (by kernel_rfl) (by simp only[icLt])
   (fun a1=>(have⟨h3,aa,ab,ac⟩:=@c63 (q) 2 (by assumption) (by omega) (by omega);
   (Sat.pCallE 63 ([.ref (.inc 0) 0 0,.int .i64 2]) ([.box (.agg [.tree (List.map encB q.l),.int .i64 (↑q.n:Int)]) true]) (by kernel_rfl) rfl rfl h3
   (Sat.pIf ((q.num (2:Int)).fst=(0:Int)) (by kernel_rfl) (fun a2=>
   (have⟨h4,ad,ae,af⟩:=@c63 ((q.num (2:Int)).snd) 6 (by(clear again;(simp only[Picks.num_l];omega))) (by omega) (by omega);
   (Sat.pCallE 63 ([.ref (.inc 0) 0 0,.int .i64 6]) ([.box (.agg [.tree (List.map encB (q.num (2:Int)).snd.l),.int .i64 (↑(q.num (2:Int)).snd.n:Int)]) true]) (by kernel_rfl) rfl rfl h4
   (Sat.pIf ((0:Int)≤((q.num (2:Int)).snd.num (6:Int)).fst∧((q.num (2:Int)).snd.num (6:Int)).fst<(6:Int)) (by kernel_rfl) (fun a5=>
   (Sat.pElemM (.int .i64) ([(0:Int),(1:Int),(5:Int),(7:Int),(50:Int),(99:Int)]) ([.int .i64 0,.int .i64 1,.int .i64 5,.int .i64 7,.int .i64 50,.int .i64 99]) (((q.num (2:Int)).snd.num (6:Int)).fst.toNat) (by kernel_rfl) rfl (by(clear again;(simp;omega)))
   (fun a3 a6=>(Sat.pIf ((l.length+(1:Nat))*(16:Nat)≤(140737488355328:Nat)) (by kernel_rfl) (fun a7=>
   (Sat.pIfE (l.length=(List.map encAttr l).length) (True) (by kernel_rfl) (by simp only[List.length_map]) (fun a4=>
   (have a8:IntKind.i64.wrap ((↑k:Int)+(1:Int))=(↑k:Int)+(1:Int):=wI64 (by omega) (by omega);
   (Sat.pAgainE (St.mk [((0:Nat),.ref (.inc 0) 0 0),((3:Nat),AV.sref (Site.head (3:Nat) (0:Nat)) (0:Nat) (l.length+(1:Nat))),((4:Nat),.int .i64 (IntKind.i64.wrap ((↑k:Int)+(1:Int))))] [(Site.inc (0:Nat),.box (.agg [.tree (List.map encB ((q.num (2:Int)).snd.num (6:Int)).snd.l),.int .i64 (↑((q.num (2:Int)).snd.num (6:Int)).snd.n:Int)]) true),(Site.head (3:Nat) (0:Nat),Blk.row (2:Nat) (List.map encAttr l++[.agg [.int .i64 (↑k:Int),.int .i64 a3]]) true true)]) (by kernel_rfl) (by simp[encPicks,encAttr,a8]) (again ((k+(1:Nat),Picks.mk ((q.num (2:Int)).snd.num (6:Int)).2.l ((q.num (2:Int)).snd.num (6:Int)).2.n,l++[Attr.mk (↑k:Int) a3])) ?_ (by(clear again;(dsimp only;omega)))))))
   (fun a4=>(a4 trivial).elim))) (fun a7=>False.elim (by omega)))))) (fun a5=>False.elim (by omega)))))) (fun a2=>
   (have a9:IntKind.i64.wrap ((↑k:Int)+(1:Int))=(↑k:Int)+(1:Int):=wI64 (by omega) (by omega);
   (Sat.pAgainE (St.mk [((0:Nat),.ref (.inc 0) 0 0),((3:Nat),AV.sref (Site.head (3:Nat) (0:Nat)) (0:Nat) l.length),((4:Nat),.int .i64 (IntKind.i64.wrap ((↑k:Int)+(1:Int))))] [(Site.inc (0:Nat),.box (.agg [.tree (List.map encB (q.num (2:Int)).snd.l),.int .i64 (↑(q.num (2:Int)).snd.n:Int)]) true),(Site.head (3:Nat) (0:Nat),Blk.row (2:Nat) (List.map encAttr l) true true)]) (by kernel_rfl) (by simp[encPicks,a9]) (again ((k+(1:Nat),Picks.mk (q.num (2:Int)).2.l (q.num (2:Int)).2.n,l)) ?_ (by(clear again;(dsimp only;omega)))))))))))
   (fun a1=>(have ag:List.take l.length (List.map encAttr l)=List.map encAttr l:=List.take_of_length_le (by simp);
   (Sat.pRet (Res.mk (.tree (List.take l.length (List.map encAttr l))) [.box (.agg [.tree (List.map encB q.l),.int .i64 (↑q.n:Int)]) true] []) (by kernel_rfl) ?_))))))))
   (fun a0=>(Sat.pIfEF ((↑k:Int)<(4:Int)) (k<(4:Nat)) (by kernel_rfl) (by simp only[icLt]) a0
   (Sat.pIfEF ((↑k:Int)<(4:Int)) (k<(4:Nat)) (by kernel_rfl) (by simp only[icLt]) a0 (Sat.pIfEF ((↑k:Int)<(4:Int)) (k<(4:Nat)) (by kernel_rfl) (by simp only[icLt]) a0
   (Sat.pNodeF false (by kernel_rfl) rfl (have ah:List.take l.length (List.map encAttr l)=List.map encAttr l:=List.take_of_length_le (by simp);
   (Sat.pRet (Res.mk (.tree (List.take l.length (List.map encAttr l))) [.box (.agg [.tree (List.map encB q.l),.int .i64 (↑q.n:Int)]) true] []) (by kernel_rfl) ?_))))))))
  ·exact⟨by omega,by simp;omega,by simp only[Picks.num_l];exact hq,by rw[hs];simp[Picks.attrsAt,a0,a1,a2,hf3,attrVals,List.getD,a6]⟩
  ·exact⟨by omega,by simp;omega,by simp only[Picks.num_l];exact hq,by rw[hs];simp[Picks.attrsAt,a0,a1,a2,hf3]⟩
  ·rw[hs];simp[Picks.attrsAt,encPicks, *]
  ·rw[hs];simp[Picks.attrsAt,encPicks, *]
theorem c19 (p:Picks) (hp:p.l.length≤100000):
  X.call 19 [.ref (.inc 0) 0 0] [.box (encPicks p) true] ⟨encVersion p.version.1,[.box (encPicks p.version.2) true],[]⟩:=by
 refine spec_of ok Go.Proofs.Tryz.func19 ok19 ?_
 refine(have⟨h5,a5,a6,a7⟩:=@c63 p 6 (by assumption) (by omega) (by omega);
  (Sat.pCallE 63 ([.ref (.inc 0) 0 0,.int .i64 6]) ([.box (.agg [.tree (List.map encB p.l),.int .i64 (↑p.n:Int)]) true]) (by kernel_rfl) rfl rfl h5
  (Sat.pCallE 65 ([.ref (.inc 0) 0 0]) ([.box (.agg [.tree (List.map encB (p.num (6:Int)).snd.l),.int .i64 (↑(p.num (6:Int)).snd.n:Int)]) true]) (by kernel_rfl) rfl rfl (@c65 ((p.num (6:Int)).snd) (by(simp only[Picks.num_l,Picks.stamp_l,Picks.attrs_l,Picks.tag_l];omega)))
  (Sat.pCallE 66 ([.ref (.inc 0) 0 0]) ([.box (.agg [.tree (List.map encB (p.num (6:Int)).snd.stamp.snd.l),.int .i64 (↑(p.num (6:Int)).snd.stamp.snd.n:Int)]) true]) (by kernel_rfl) rfl rfl (@c66 ((p.num (6:Int)).snd.stamp.snd) (by(simp only[Picks.num_l,Picks.stamp_l,Picks.attrs_l,Picks.tag_l];omega)))
  (Sat.pCallE 67 ([.ref (.inc 0) 0 0]) ([.box (.agg [.tree (List.map encB (p.num (6:Int)).snd.stamp.snd.attrs.snd.l),.int .i64 (↑(p.num (6:Int)).snd.stamp.snd.attrs.snd.n:Int)]) true]) (by kernel_rfl) rfl rfl (@c67 ((p.num (6:Int)).snd.stamp.snd.attrs.snd) (by(simp only[Picks.num_l,Picks.stamp_l,Picks.attrs_l,Picks.tag_l];omega)))
  (have⟨h6,a8,a9,aa⟩:=@c63 ((p.num (6:Int)).snd.stamp.snd.attrs.snd.tag.snd) 6 (by(simp only[Picks.num_l,Picks.stamp_l,Picks.attrs_l,Picks.tag_l];omega)) (by omega) (by omega);
  (Sat.pCallE 63 ([.ref (.inc 0) 0 0,.int .i64 6]) ([.box (.agg [.tree (List.map encB (p.num (6:Int)).snd.stamp.snd.attrs.snd.tag.snd.l),.int .i64 (↑(p.num (6:Int)).snd.stamp.snd.attrs.snd.tag.snd.n:Int)]) true]) (by kernel_rfl) rfl rfl h6
  (Sat.pIfN (((p.num (6:Int)).snd.stamp.snd.attrs.snd.tag.snd.num (6:Int)).fst=(1:Int)) (by kernel_rfl) (fun _h9=>
  (have⟨h7,ab,ac,ad⟩:=@c63 (((p.num (6:Int)).snd.stamp.snd.attrs.snd.tag.snd.num (6:Int)).snd) 4 (by(simp only[Picks.num_l,Picks.stamp_l,Picks.attrs_l,Picks.tag_l];omega)) (by omega) (by omega);
  (Sat.pCallE 63 ([.ref (.inc 0) 0 0,.int .i64 4]) ([.box (.agg [.tree (List.map encB ((p.num (6:Int)).snd.stamp.snd.attrs.snd.tag.snd.num (6:Int)).snd.l),.int .i64 (↑((p.num (6:Int)).snd.stamp.snd.attrs.snd.tag.snd.num (6:Int)).snd.n:Int)]) true]) (by kernel_rfl) rfl rfl h7
  (Sat.pIf ((0:Int)≤(((p.num (6:Int)).snd.stamp.snd.attrs.snd.tag.snd.num (6:Int)).snd.num (4:Int)).fst∧(((p.num (6:Int)).snd.stamp.snd.attrs.snd.tag.snd.num (6:Int)).snd.num (4:Int)).fst<(4:Int)) (by kernel_rfl)
  (fun a0=>
  (Sat.pElemM (AV.str) ([[],[(120:UInt8)],[(98:UInt8),(111:UInt8),(100:UInt8),(121:UInt8)],[(97:UInt8),(32:UInt8),(98:UInt8),(111:UInt8),(100:UInt8),(121:UInt8),(32:UInt8),(111:UInt8),(102:UInt8),(32:UInt8),(49:UInt8),(50:UInt8)]]) ([AV.str [],AV.str [(120:UInt8)],AV.str [(98:UInt8),(111:UInt8),(100:UInt8),(121:UInt8)],AV.str [(97:UInt8),(32:UInt8),(98:UInt8),(111:UInt8),(100:UInt8),(121:UInt8),(32:UInt8),(111:UInt8),(102:UInt8),(32:UInt8),(49:UInt8),(50:UInt8)]]) ((((p.num (6:Int)).snd.stamp.snd.attrs.snd.tag.snd.num (6:Int)).snd.num (4:Int)).fst.toNat) (by kernel_rfl) rfl (by(simp;omega))
  (fun a1 a2=>(have a3:IntKind.i64.wrap ((1:Int)+(p.num (6:Int)).fst)=(1:Int)+(p.num (6:Int)).fst:=wI64 (by omega) (by omega);
  (Sat.pRet (Res.mk (.agg [.int .i64 (IntKind.i64.wrap ((1:Int)+(p.num (6:Int)).fst)),.int .i64 (p.num (6:Int)).snd.stamp.fst.L,.int .i64 (p.num (6:Int)).snd.stamp.fst.R,.int .i64 (p.num (6:Int)).snd.stamp.fst.N,AV.bool (decide (((p.num (6:Int)).snd.stamp.snd.attrs.snd.tag.snd.num (6:Int)).fst=(1:Int))),.tree (List.map encAttr (p.num (6:Int)).snd.stamp.snd.attrs.fst),AV.str (p.num (6:Int)).snd.stamp.snd.attrs.snd.tag.fst,AV.str a1]) [.box (.agg [.tree (List.map encB (((p.num (6:Int)).snd.stamp.snd.attrs.snd.tag.snd.num (6:Int)).snd.num (4:Int)).snd.l),.int .i64 (↑(((p.num (6:Int)).snd.stamp.snd.attrs.snd.tag.snd.num (6:Int)).snd.num (4:Int)).snd.n:Int)]) true] []) (by kernel_rfl) ?_)))))
  (fun a0=>False.elim (by omega)))))) (fun _h9=>(have a4:IntKind.i64.wrap ((1:Int)+(p.num (6:Int)).fst)=(1:Int)+(p.num (6:Int)).fst:=wI64 (by omega) (by omega);
  (Sat.pRet (Res.mk (.agg [.int .i64 (IntKind.i64.wrap ((1:Int)+(p.num (6:Int)).fst)),.int .i64 (p.num (6:Int)).snd.stamp.fst.L,.int .i64 (p.num (6:Int)).snd.stamp.fst.R,.int .i64 (p.num (6:Int)).snd.stamp.fst.N,AV.bool (decide (((p.num (6:Int)).snd.stamp.snd.attrs.snd.tag.snd.num (6:Int)).fst=(1:Int))),.tree (List.map encAttr (p.num (6:Int)).snd.stamp.snd.attrs.fst),AV.str (p.num (6:Int)).snd.stamp.snd.attrs.snd.tag.fst,AV.str []]) [.box (.agg [.tree (List.map encB ((p.num (6:Int)).snd.stamp.snd.attrs.snd.tag.snd.num (6:Int)).snd.l),.int .i64 (↑((p.num (6:Int)).snd.stamp.snd.attrs.snd.tag.snd.num (6:Int)).snd.n:Int)]) true] []) (by kernel_rfl) ?_)))))))))))
 ·simp only[Picks.version,if_neg _h9,encVersion,encPicks,bodies,List.getD,a3,decide_eq_false _h9,a2,Option.getD_some,Res.mk.injEq,AV.agg.injEq,and_self]
 ·simp only[Picks.version,if_pos _h9,encVersion,encPicks,a4,decide_eq_true _h9,Res.mk.injEq,AV.agg.injEq,and_self]
end Go.Ab.Tryz
