/-
  Part LibJX.
-/
import Derived.Test.YtoilpafpgndilaaGreatLibIX
set_option linter.all false
set_option maxRecDepth 10000
set_option maxHeartbeats 4000000
namespace Go.Proofs.YtoilpafpgndilaaGreat
open Go.Ideal Kd Canon
def su(k:bD):List Int:=k.decl.symbols.map (·.value)
structure V8(k:bD)(r:bN):Prop where
 kE:0<=r.family/\r.family<k.lists.length
 aL:r.aL<k.decl.aJ.length
