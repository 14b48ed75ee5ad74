/-
  Lists compared: of lists, names, symbols, regions, clues, rules.
-/
import Derived.Test.YtoohgkkmdnbnfaaGreatDoorLibAG
import Derived.Test.YtoohgkkmdnbnfaaGreatDoorShelf
import Derived.Test.YtoohgkkmdnbnfaaGreatDoorIdealOG
set_option linter.all false
set_option maxRecDepth 10000
set_option maxHeartbeats 2000000
namespace Go.Proofs.YtoohgkkmdnbnfaaGreatDoor
open Go.Ideal Kd
end Go.Proofs.YtoohgkkmdnbnfaaGreatDoor
set_option maxHeartbeats 4000000
namespace Go.Proofs.YtoohgkkmdnbnfaaGreatDoor
open Go.Ideal Kd
end Go.Proofs.YtoohgkkmdnbnfaaGreatDoor
namespace Go.Proofs.YtoohgkkmdnbnfaaGreatDoor
open Go.Ideal
end Go.Proofs.YtoohgkkmdnbnfaaGreatDoor
namespace Go.Proofs.YtoohgkkmdnbnfaaGreatDoor
open Go.Ideal Kd
def FL(xs:List Int)(z:Int)(y:Nat×Bool):Prop:=y.1<=xs.length/\(∀(j:Nat) x,j<y.1->xs[j]? =some x->x<z)/\(∀(j:Nat) x,y.1<=j->xs[j]? =some x->z<=x)/\(y.2=true↔xs[y.1]? =some z)
theorem FL.mem{xs:List Int}{z:Int}{y:Nat×Bool}(h:FL xs z y)(hs:xs.Pairwise (·<·)):y.2=true↔z∈xs:=by
 obtain⟨h1,h2,h3,h4⟩:=h;rw[h4];refine⟨λh=>cK h,λh=>?_⟩;obtain⟨j,hj⟩:=xZ.1 h;have hjl:=(bH.1 hj)
 rcases Nat.lt_trichotomy j y.1 with h5|h5|h5
 ·have:=h2 j z h5 hj;omega
 ·rw[<- h5];exact hj
 ·have hyl:y.1<xs.length:=by have:=hjl.1;omega
  have hy:xs[y.1]? =some xs[y.1]:=aU hyl;have h6:=h3 y.1 _ (aB _) hy;have h7:=Gt.1 hs y.1 j hyl hjl.1 h5;rw[hjl.2]at h7;omega
structure Rw where
 ok:Bool
 vh:Value
 vc:Value
end Go.Proofs.YtoohgkkmdnbnfaaGreatDoor
namespace Go.Proofs.YtoohgkkmdnbnfaaGreatDoor
open Go.Ideal Kd
structure Rx(g:oW):Prop where
 w:qE g.w
 h:qE g.h
 holes:g.holes.length<4611686018427387904
 cells:g.cells.length<4611686018427387904
end Go.Proofs.YtoohgkkmdnbnfaaGreatDoor
namespace Go.Proofs.YtoohgkkmdnbnfaaGreatDoor
open Go.Ideal Kd
theorem O4:l7 (iV Tryz.prog lN lQ):=oJ _ _ _ (λf q h v h' hm=>by cases hm)
structure Ry where
 v:Value
 e:Int
section
variable {P:Program} {B:List Nat} {w0:Wd} {kl kl':List OA} {F:List ay} {Q:IH->Prop}
end
