/-
  Part SaneBK.
-/
import Derived.Test.YtfakljdleblkoaaGreatSaneAK
set_option linter.all false
namespace Go.Proofs.YtfakljdleblkoaaGreat
open Go.Ideal
theorem ad9:(Bh Np 1000000).call ⟨.func 30,[Jb],[],none⟩ ⟨heapT Jc,Am,Am⟩ (gives (.int .i64 (.ofNat 0)) Am)=true:=by kernel_rfl
