/-
  Graphs with sets of nodes.
-/
import Derived.Test.YtoohgkkmdnbnfaaGreatDoorLibAA
import Derived.Test.YtoohgkkmdnbnfaaGreatDoorPlainAA
set_option linter.all false
set_option maxRecDepth 10000
set_option maxHeartbeats 1000000
namespace Go.Proofs.YtoohgkkmdnbnfaaGreatDoor
open Go.Ideal
set_option maxHeartbeats 2000000
open Go.Ideal Gph
theorem j3.rg{g:List (List Int)}(h:j3 g):∀l∈g,∀n∈l,Rg g n:=λl hl n hn=>by
 obtain⟨i,hi⟩:=lH hl;obtain⟨k,hk⟩:=lH hn;have:=h.ok i l hi k n hk;exact⟨this.1,this.2.1⟩
structure ajB where
 a:Option Addr
 n:Nat
 e:Int
def gX:Enc iG:=⟨9,Value×Value,λc y=>[.int .i64 c.kind,y.1,.int .i64 c.set,.int .i64 c.other,.int .i64 c.lo,.int .i64 c.hi,y.2,.int .i64 c.rule,.int .i64 c.at_],λc y=>[ah aa y.1 c.cells,ah aa y.2 c.runs],λ_ _=>rfl⟩
abbrev NG(c:iG)(v1 v2:Value):List Value:=[.int .i64 c.kind,v1,.int .i64 c.set,.int .i64 c.other,.int .i64 c.lo,.int .i64 c.hi,v2,.int .i64 c.rule,.int .i64 c.at_]
abbrev qU(q:zW)(vv vn vc:Value):List Value:=[.int .i64 q.cells,.int .i64 q.symbols,vv,vn,vc]
structure af8(c:iG):Prop where
 cells:c.cells.length<9223372036854775808
 runs:c.runs.length<9223372036854775808
def Fin(cells symbols:Int)(grid:List Int):Prop:=(grid.length:Int)=cells/\∀s∈grid,0<=s/\s<symbols
structure ajC(q:zW):Prop where
 cells:1<=q.cells/\q.cells<=256
 symbols:1<=q.symbols/\q.symbols<=16
 ajD:(q.values.length:Int)=q.symbols
 vals:∀v∈q.values,0<=v/\v<=99
 U0:(q.bn.length:Int)=q.cells
 ajE:j3 q.bn
 many:q.cons.length<=4096
 fine:∀c∈q.cons,Mr q.cells q.symbols c
structure ajF(q:zW):Prop where
 values:q.values.length<9223372036854775808
 bn:∀l∈q.bn,l.length<9223372036854775808
 cons:q.cons.length<9223372036854775808
 con:∀c∈q.cons,af8 c
