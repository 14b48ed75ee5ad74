/-
  ref53: Add, Rank; lists compared.
-/
import Derived.Test.YtbdaaopebgcnaaaGreatDoorLibIM
set_option linter.all false
set_option maxRecDepth 10000
set_option maxHeartbeats 4000000
namespace Go.Proofs.YtbdaaopebgcnaaaGreatDoor
open Go.Ideal Rk
