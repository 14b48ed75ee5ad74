/-
  Part LibJK.
-/
import Derived.Test.YtfakljdleblkoaaGreatLibIK
set_option linter.all false
set_option maxRecDepth 10000
set_option maxHeartbeats 4000000
namespace Go.Proofs.YtfakljdleblkoaaGreat
open Go.Ideal Kd Canon
def kP(k:bS):List Int:=k.decl.symbols.map (·.value)
structure Vd(k:bS)(r:bA):Prop where
 iK:0<=r.family/\r.family<k.lists.length
 aQ:r.aQ<k.decl.aJ.length
