/-
  What rules mean for lists of cells: sets of symbols, counts, sums, differences, rises, runs.
-/
import Derived.Test.YtoohgkkmdnbnfaaGreatDoorProg
import Derived.Test.YtoohgkkmdnbnfaaGreatDoorPlainAG
import Derived.Laws.Strings
set_option linter.all false
set_option maxRecDepth 10000
set_option maxHeartbeats 1000000
namespace Go.Proofs.YtoohgkkmdnbnfaaGreatDoor
open Go.Ideal
structure Rn(grid:List Int):Prop where
 len:grid.length<=1000000
 O3:∀x∈grid,0<=x/\x<16
structure Ro(grid cells:List Int):Prop where
 len:cells.length<=1000000
 cell:∀c∈cells,0<=c/\c<grid.length
def sy(grid:List Int)(c:Int):Nat:=(grid.getD c.toNat 0).toNat
def cnt(grid:List Int)(set:Nat)(cells:List Int):Nat:=(cells.filter λc=>set.testBit (sy grid c)).length
structure Rp(values grid:List Int):Prop where
 val:∀v∈values,0<=v/\v<=99
 O3:∀x∈grid,x<values.length
def va(values grid:List Int)(c:Int):Int:=values.getD (sy grid c) 0
def met(grid cells:List Int):Nat:=cells.foldl (λm c=>m|||1<<<sy grid c) 0
end Go.Proofs.YtoohgkkmdnbnfaaGreatDoor
namespace Go.Proofs.YtoohgkkmdnbnfaaGreatDoor
open Go.Ideal
end Go.Proofs.YtoohgkkmdnbnfaaGreatDoor
namespace Go.Proofs.YtoohgkkmdnbnfaaGreatDoor
open Go.Ideal
structure eO(g:List (List Int)):Prop where
 len:g.length<=256
 ok:∀(i:Nat) l,g[i]? =some l->∀(k:Nat) n,l[k]? =some n->0<=n/\n<g.length/\n≠i/\(∀m,0<k->l[k - 1]? =some m->m<n)/\∀l',g[n.toNat]? =some l'->(i:Int)∈l'
end Go.Proofs.YtoohgkkmdnbnfaaGreatDoor
set_option maxHeartbeats 2000000
namespace Go.Proofs.YtoohgkkmdnbnfaaGreatDoor
open Go.Ideal Kd
abbrev iA:ByteArray->Value:=λs=>.string s
end Go.Proofs.YtoohgkkmdnbnfaaGreatDoor
namespace Go.Proofs.YtoohgkkmdnbnfaaGreatDoor
open Go.Ideal Kd
section
variable {P:Program} {B:List Nat} {w0:Wd} {kl kl':List OA} {F:List ay} {K:KO} {ds:List Tmp} {rest:List aC} {n:Nat} {l:List (Nat×Value)} {D:List Deferred} {pm:Option FrameMode} {ro:Option Nat} {d:Nat} {g:Option (Tmp×Bool)}
end
end Go.Proofs.YtoohgkkmdnbnfaaGreatDoor
set_option maxHeartbeats 4000000
namespace Go.Proofs.YtoohgkkmdnbnfaaGreatDoor
open Go.Ideal Kd
structure Rq where
 ok:Bool
 e:Int
 vc:Value
 vu:Value
structure Rs(d:oV):Prop where
 xE:d.symbols.length<=4096
 regs:d.regions.length<=4096
 Fx:d.tF.length<=4096
 Rt:d.rules.length<=4096
 Ru:∀r∈d.rules,r.names.length<9223372036854775808/\r.others.length<9223372036854775808
 holes:d.holes.length<9223372036854775808
 Rv:∀r∈d.regions,r.lists.length<9223372036854775808/\∀l∈r.lists,l.length<9223372036854775808
section
variable {B:List Nat} {w0:Wd} {kl aQ:List OA} {F:List ay} {l:List (Nat×Value)} {b2 b3:Nat} {n:Nat}
end
section
variable {B:List Nat} {w0:Wd} {kl aQ:List OA} {F:List ay} {l:List (Nat×Value)} {b2 b3:Nat} {n:Nat}
end
