/-
  Part SaneBX.
-/
import Derived.Test.YtoilpafpgndilaaGreatSaneAX
set_option linter.all false
namespace Go.Proofs.YtoilpafpgndilaaGreat
open Go.Ideal
theorem aeT:(BV NW 1000000).call ⟨.func 74,[JF],[],none⟩ ⟨heapT JG,Be,Be⟩ (gives (.int .i64 (.ofNat 0)) Be)=true:=by kernel_rfl
