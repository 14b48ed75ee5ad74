/-
  kinds.Check of that kind.
-/
import Derived.Test.YtpkieeggilkagaaGreatSaneA
namespace Go.Proofs.YtpkieeggilkagaaGreat
open Go.Ideal
theorem check_run : (evB env0 1000000).call ⟨.func 39, [rowV], [], none⟩ ⟨heapT rowO, rowN, rowN⟩ (gives (.int .i64 (.ofNat 0)) rowN) = true := by kernel_rfl
end Go.Proofs.YtpkieeggilkagaaGreat
