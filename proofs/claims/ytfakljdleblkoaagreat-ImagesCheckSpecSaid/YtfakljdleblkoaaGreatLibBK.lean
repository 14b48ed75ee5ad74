/-
  Part LibBK.
-/
import Derived.Test.YtfakljdleblkoaaGreatLibAK
set_option linter.all false
set_option maxRecDepth 10000
set_option maxHeartbeats 2000000
namespace Go.Proofs.YtfakljdleblkoaaGreat
open Go.Ideal Gph
structure ajk where
 a:Option Addr
 n:Nat
 e:Int
structure ael(c:EC):Prop where
 cells:c.cells.length<9223372036854775808
 runs:c.runs.length<9223372036854775808
def Fin(cells symbols:Int)(grid:List Int):Prop:=(grid.length:Int)=cells/\∀s∈grid,0<=s/\s<symbols
structure ajl(q:MI):Prop where
 cells:1<=q.cells/\q.cells<=256
 symbols:1<=q.symbols/\q.symbols<=16
 ajm:(q.values.length:Int)=q.symbols
 vals:∀v∈q.values,0<=v/\v<=99
 Ao:(q.aD.length:Int)=q.cells
 ajn:kz q.aD
 many:q.cons.length<=4096
 fine:∀c∈q.cons,MJ q.cells q.symbols c
structure ajo(q:MI):Prop where
 values:q.values.length<9223372036854775808
 aD:∀l∈q.aD,l.length<9223372036854775808
 cons:q.cons.length<9223372036854775808
 con:∀c∈q.cons,ael c
structure ajq(q:MI)(c:EC)(grid:List Int):Prop where
 gr:Un grid
 ce:Uo grid c.cells
 vs:Uq q.values grid
 st:0<=c.set/\c.set<65537
 ot:0<=c.other/\c.other<65537
