/-
  kinds.Check of that kind.
-/
import Derived.Test.YtfakljdleblkoaaGreatSaneAM
set_option linter.all false
namespace Go.Proofs.YtfakljdleblkoaaGreat
open Go.Ideal
theorem ahe:(Cs Pp 1000000).call ⟨.func 30,[KA],[],none⟩ ⟨heapT KC,Bz,Bz⟩ (gives (.int .i64 (.ofNat 0)) Bz)=true:=by kernel_rfl
