/-
  kinds.Check of that kind.
-/
import Derived.Test.YtpkieeggilkagaaGreatSaneA
set_option linter.unusedSimpArgs false
set_option linter.unusedVariables false
namespace Go.Proofs.YtpkieeggilkagaaGreat
open Go.Ideal
theorem zKy : (evB zSq 1000000).call ⟨.func 39, [zRs], [], none⟩ ⟨heapT zRq, zPK, zPK⟩ (gives (.int .i64 (.ofNat 0)) zPK) = true := by kernel_rfl
end Go.Proofs.YtpkieeggilkagaaGreat
