/-
  Part LibBX.
-/
import Derived.Test.YtoilpafpgndilaaGreatLibAX
set_option linter.all false
set_option maxRecDepth 10000
set_option maxHeartbeats 2000000
namespace Go.Proofs.YtoilpafpgndilaaGreat
open Go.Ideal Gph
structure akx where
 a:Option Addr
 n:Nat
 e:Int
structure ae8(c:Jc):Prop where
 cells:c.cells.length<9223372036854775808
 runs:c.runs.length<9223372036854775808
def Fin(cells symbols:Int)(grid:List Int):Prop:=(grid.length:Int)=cells/\∀s∈grid,0<=s/\s<symbols
structure aky(q:Ua):Prop where
 cells:1<=q.cells/\q.cells<=256
 symbols:1<=q.symbols/\q.symbols<=16
 akz:(q.values.length:Int)=q.symbols
 vals:∀v∈q.values,0<=v/\v<=99
 Vm:(q.aQ.length:Int)=q.cells
 akA:kL q.aQ
 many:q.cons.length<=4096
 fine:∀c∈q.cons,Na q.cells q.symbols c
structure akB(q:Ua):Prop where
 values:q.values.length<9223372036854775808
 aQ:∀l∈q.aQ,l.length<9223372036854775808
 cons:q.cons.length<9223372036854775808
 con:∀c∈q.cons,ae8 c
