/-
  Part SaneBR.
-/
import Derived.Test.YtpkieeggilkagaaGreatSaneAR
set_option linter.all false
namespace Go.Proofs.YtpkieeggilkagaaGreat
open Go.Ideal
theorem aed:(BN NN 1000000).call ⟨.func 39,[Jy],[],none⟩ ⟨heapT Jz,AP,AP⟩ (gives (.int .i64 (.ofNat 0)) AP)=true:=by kernel_rfl
