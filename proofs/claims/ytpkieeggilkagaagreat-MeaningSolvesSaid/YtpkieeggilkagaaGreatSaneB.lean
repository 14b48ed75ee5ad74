/-
  kinds.Check of that kind.
-/
import Derived.Test.YtpkieeggilkagaaGreatSaneA
set_option linter.unusedSimpArgs false
set_option linter.unusedVariables false
namespace Go.Proofs.YtpkieeggilkagaaGreat
open Go.Ideal
theorem zNV:(evB zT8 1000000).call ⟨.func 39,[zTZ],[],none⟩ ⟨heapT zTn,zQe,zQe⟩ (gives (.int .i64 (.ofNat 0)) zQe)=true:=by kernel_rfl
end Go.Proofs.YtpkieeggilkagaaGreat
