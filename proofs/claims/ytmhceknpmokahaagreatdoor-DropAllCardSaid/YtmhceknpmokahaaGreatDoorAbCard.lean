/- What a card asks of the world where package variables are laid: a world that meets it, and what it gives. -/
import Derived.LaidHandle
import Derived.LaidLaws
import Derived.LaidOnce
import Derived.KernelRfl
namespace Go.Ab
open Go
def flatD:Nat→DataW Unit→List Value
 | 0,_=> []
 |n+1,d=>match d with
  | .lit (.int k i)=>[.int k i]
  | .agg ds=>ds.flatMap (flatD n)
  |_=> []
def layBlock (c:Array Value) (w:World) (b:Nat):World:=
 { w with heap:=w.heap.modify b fun
  | .cells _ t frozen=> .cells c t frozen
  |o=>o }
theorem laidH {P:Program} {l:List (String×DataW Unit)} {w:World} (fuel M:Nat)
  (h:(DataW.laidRun P w fuel ((l.filter fun x=>x.2.handleName?.isNone).map (·.1))).map (fun x=>(x.1,nodupBits M x.2 0&&laidRowsB P w x.2))=some (l.filter fun x=>x.2.handleName?.isNone,true))
  (hh:(l.filter fun x=>x.2.handleName?.isSome).all (handleAtB P w)=true):laidMetH P l w:=by
 simp only[Option.map_eq_some_iff,Prod.mk.injEq,Bool.and_eq_true]at h
 obtain⟨⟨l',ps⟩,h1,h2,h3,h4⟩:=h
 simp only at h2 h3 h4
 subst h2
 exact laidMetH_of_parts (laidMet_of_run (ps:=ps) fuel h1 (decide_eq_true (nodupBits_sound h3).1) h4) hh
theorem hands_of {P:Program} {l:List (String×DataW Unit)} {w:World} (hne:(l.filter fun x=>x.2.handleName?.isSome).isEmpty=false) (h:laidMetH P l w):handlesMet P (l.filter fun x=>x.2.handleName?.isSome) w:=by
 unfold laidMetH at h
 cases hf:l.filter fun x=>x.2.handleName?.isSome with
 |nil=>rw[hf]at hne;cases hne
 |cons a r=>rw[hf]at h;exact h.2
end Go.Ab
