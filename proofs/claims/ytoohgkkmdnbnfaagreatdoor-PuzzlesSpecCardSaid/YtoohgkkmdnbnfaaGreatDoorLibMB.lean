/-
  Graphs with sets of nodes.
-/
import Derived.Test.YtoohgkkmdnbnfaaGreatDoorLibAB
import Derived.Test.YtoohgkkmdnbnfaaGreatDoorPlainAB
set_option linter.all false
set_option maxRecDepth 10000
set_option maxHeartbeats 1000000
namespace Go.Proofs.YtoohgkkmdnbnfaaGreatDoor
open Go.Ideal
set_option maxHeartbeats 2000000
open Go.Ideal Gph
theorem jG.rg{g:List (List Int)}(h:jG g):∀l∈g,∀n∈l,Rg g n:=λl hl n hn=>by
 obtain⟨i,hi⟩:=qo hl;obtain⟨k,hk⟩:=qo hn;have:=h.ok i l hi k n hk;exact⟨this.1,this.2.1⟩
structure agz where
 a:Option Addr
 n:Nat
 e:Int
structure adF(c:Gg):Prop where
 cells:c.cells.length<9223372036854775808
 runs:c.runs.length<9223372036854775808
def Fin(cells symbols:Int)(grid:List Int):Prop:=(grid.length:Int)=cells/\∀s∈grid,0<=s/\s<symbols
structure agA(q:QD):Prop where
 cells:1<=q.cells/\q.cells<=256
 symbols:1<=q.symbols/\q.symbols<=16
 agB:(q.values.length:Int)=q.symbols
 vals:∀v∈q.values,0<=v/\v<=99
 Sq:(q.bR.length:Int)=q.cells
 agC:jG q.bR
 many:q.cons.length<=4096
 fine:∀c∈q.cons,Kl q.cells q.symbols c
structure agD(q:QD):Prop where
 values:q.values.length<9223372036854775808
 bR:∀l∈q.bR,l.length<9223372036854775808
 cons:q.cons.length<9223372036854775808
 con:∀c∈q.cons,adF c
