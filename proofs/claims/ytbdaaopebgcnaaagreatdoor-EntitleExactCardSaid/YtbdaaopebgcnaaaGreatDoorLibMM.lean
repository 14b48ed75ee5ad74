/-
  ranking.Ranking.
-/
import Derived.Test.YtbdaaopebgcnaaaGreatDoorLibLM
set_option linter.all false
set_option maxRecDepth 10000
set_option maxHeartbeats 4000000
namespace Go.Proofs.YtbdaaopebgcnaaaGreatDoor
open Go.Ideal Rk Canon Go.Sort
structure RkY where
 vb:Value
 vw:Value
 vu:Value
 e:Int
 b:List Int
 w:List Int
 u:List (Int×Int)
theorem x9{α:Type}{E:Enc α}(w:Wd):(ae E (.slice none 0 0) ([]:List α)).p w:=.inl ⟨rfl,none,0,rfl,trivial⟩
theorem VG:∀aa:List (Int×ah.Y),aP ah aa=(aa.map (·.1)).map (.int .i64)
 |[]=>rfl
 |x::xs=>congrArg (Value.int .i64 x.1::·) (VG xs)
section
variable {P:Program} {B:List Nat} {w0:Wd} {kl kl':List OA} {F:List aD}
end
