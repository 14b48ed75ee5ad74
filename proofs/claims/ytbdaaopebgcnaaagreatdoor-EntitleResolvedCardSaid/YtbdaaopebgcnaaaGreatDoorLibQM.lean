/-
  The laws EntitlePrizesSpec and EntitleShared on the ideal machine.
-/
import Derived.Test.YtbdaaopebgcnaaaGreatDoorLibPM
import Derived.Test.YtbdaaopebgcnaaaGreatDoorSaneBM
set_option linter.all false
set_option maxRecDepth 10000
set_option maxHeartbeats 2000000
namespace Go.Proofs.YtbdaaopebgcnaaaGreatDoor
open Go.Ideal En
theorem KY.len{p l:List Int}{y:List Int×Value×Int}(hy:KY p l y):y.1.length<=l.length:=by
 by_cases h:rA p l
 ·rw[(hy.1 h).1,bI];exact aC _
 ·rw[(hy.2 h).1];exact dY _
theorem aeh{p l:List Int}(h:rA p l){r:Int}(hr:r∈l):0<=jU p l r/\jU p l r<=8388608:=by
 have hb:=Sc h.jU h.p8 (r - 1).toNat (jq l r)
 have hep:=Qg hr;unfold jU;rw[Tx hb.1];have h7:=Int.ediv_nonneg hb.1 (show(0:Int)<=(jq l r:Int)by omega);have h8:=Int.ediv_le_self (jq l r:Int) hb.1;omega
