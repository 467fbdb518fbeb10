/- Package cardamomref16: the sum, exactly. -/
import Derived.Test.YtmhceknpmokahaaGreatDoorG3
import Derived.Test.YtmhceknpmokahaaGreatDoorAb
namespace Go.Ab.Tryz
open Go
set_option maxRecDepth 100000
set_option maxHeartbeats 4000000
theorem sum_ex (b:List UInt8) (hb:b.length≤100000):X.call 215 [.tree (b.map encB)] [] ⟨.int .u16 (sumB b:Nat),[],[]⟩:=by
 refine spec_of ok Go.Proofs.Tryz.func215 ok215 ?_
 refine ?_
 refine Sat.pLoop 3 (St.mk [(0,.tree (List.map encB b)),(3,AV.int IntKind.u32 65535),(4,.int .i64 0)] []) (by kernel_rfl) (fun(p:Nat×Int)=>⟨[(0,.tree (b.map encB)),(3,.int .u32 p.2),(4,.int .i64 p.1)],[]⟩) (fun p=>p.1≤b.length∧p.2=(sumB (b.take p.1):Nat)) (fun p=>b.length-p.1) (0,65535) rfl ?_ ?_
 ·exact⟨by simp,rfl⟩
 ·rintro⟨k,c⟩ hI again
  obtain⟨k1,k2⟩:=hI
  simp only at k1 k2
  have hlt:=sumB_lt (b.take k)
  by_cases hk:k<b.length
  ·obtain⟨x,hx⟩:∃x,b[k]? =some x:=⟨b[k],by simp⟩
   have he:sumB (b.take (k+1))=sumByte (sumB (b.take k)) x:=by
    unfold sumB;rw[take_succ hx,List.foldl_append];rfl
   generalize sumB (b.take k)=s at*
   refine(.el encB hk ?_)
   refine Sat.pLoop 6 (St.mk [(0,.tree (List.map encB b)),(3,AV.int IntKind.u32 c),(4,.int .i64 (↑k:Int)),(5,.int .i64 7)] []) (by kernel_rfl) (fun(p:Int×Int)=>⟨[(0,.tree (b.map encB)),(3,.int .u32 p.2),(4,.int .i64 k),(5,.int .i64 p.1)],[]⟩) (fun p=> -1≤p.1∧p.1≤7∧p.2=(byteTo s x (7-p.1).toNat:Nat)) (fun p=>(p.1+1).toNat) (7,c) rfl ?_ ?_
   ·exact⟨by simp,by simp,k2⟩
   ·rintro⟨j,d⟩ hJ again2
    obtain⟨j1,j2,j3⟩:=hJ
    simp only at j1 j2 j3
    refine(.i (0≤j) (fun a0=> .T (.eh encB hx (.it a0 (.T (.T
     (have a5:x.toNat<(256:Nat):=UInt8.toNat_lt _; .j (IntKind.u32.wrap (↑(BitVec.ofInt 32 (d.fdiv (2 ^ 15)) &&& BitVec.ofInt 32 1).toNat:Int)=IntKind.u32.wrap (↑(BitVec.ofInt 32 (IntKind.u32.wrap ((↑x.toNat:Int).fdiv (2 ^ Min.min j.toNat 8))) &&& BitVec.ofInt 32 1).toNat:Int))
     (fun a1=>have a2:=wI64' (j-(1:Int)); .A (St.mk [(0,.tree (List.map encB b)),(3,AV.int IntKind.u32 (IntKind.u32.wrap (↑(BitVec.ofInt 32 (IntKind.u32.wrap (↑(BitVec.ofInt 32 (IntKind.u32.wrap (d*2 ^ 1)) &&& BitVec.ofInt 32 65535).toNat:Int)) ^^^ BitVec.ofInt 32 4129).toNat:Int))),(4,.int .i64 (↑k:Int)),(5,.int .i64 (IntKind.i64.wrap (j-1)))] []) (by simp only[a2]) (again2 ((j-(1:Int),IntKind.u32.wrap (↑(BitVec.ofInt (32:Nat) (IntKind.u32.wrap (↑(BitVec.ofInt (32:Nat) (IntKind.u32.wrap (d*(2:Int) ^ (1:Nat))) &&& BitVec.ofInt (32:Nat) (65535:Int)).toNat:Int)) ^^^ BitVec.ofInt (32:Nat) (4129:Int)).toNat:Int))) ⟨(by dsimp only;omega),⟨(by dsimp only;omega),(by dsimp only;(clear again again2;(exact sum_ne hlt ‹_› j2 j3 ‹_›)))⟩⟩ (by dsimp only;omega)))
     (fun a1=>have a3:=wI64' (j-(1:Int)); .A (St.mk [(0,.tree (List.map encB b)),(3,AV.int IntKind.u32 (IntKind.u32.wrap (↑(BitVec.ofInt 32 (IntKind.u32.wrap (d*2 ^ 1)) &&& BitVec.ofInt 32 65535).toNat:Int))),(4,.int .i64 (↑k:Int)),(5,.int .i64 (IntKind.i64.wrap (j-1)))] []) (by simp only[a3]) (again2 ((j-(1:Int),IntKind.u32.wrap (↑(BitVec.ofInt (32:Nat) (IntKind.u32.wrap (d*(2:Int) ^ (1:Nat))) &&& BitVec.ofInt (32:Nat) (65535:Int)).toNat:Int))) ⟨(by dsimp only;omega),⟨(by dsimp only;omega),(by dsimp only;(clear again again2;(exact sum_eq hlt ‹_› j2 j3 ‹_›)))⟩⟩ (by dsimp only;omega)))))))))
     (fun a0=>have a4:=wI64' ((↑k:Int)+(1:Int)); .A (St.mk [(0,.tree (List.map encB b)),(3,AV.int IntKind.u32 d),(4,.int .i64 (IntKind.i64.wrap ((↑k:Int)+1)))] []) (by simp[a4]) (again ((k+(1:Nat),d)) ⟨(by dsimp only;omega),(by dsimp only;(clear again again2;(rw[he,j3,show(7-j).toNat=8 by omega];rfl)))⟩ (by dsimp only;omega))))
  ·refine(.en encB hk (.q (Res.mk (AV.int IntKind.u16 (IntKind.u16.wrap c)) [] []) (by(clear again;(rw[k2,List.take_of_length_le (by omega),wU16 (sumB_lt b)])))))
theorem c215 (b:List UInt8) (hb:b.length≤100000):∃s:Int,X.call 215 [.tree (b.map encB)] [] ⟨.int .u16 s,[],[]⟩∧s=(sumB b:Nat):=⟨_,sum_ex b hb,rfl⟩
def IsGoss (b:List UInt8) (g:Gossip):Prop:=b=gossB g
end Go.Ab.Tryz
