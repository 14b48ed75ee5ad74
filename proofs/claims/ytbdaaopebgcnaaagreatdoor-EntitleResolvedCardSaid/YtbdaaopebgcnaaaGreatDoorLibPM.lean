/-
  Prizes: the reference's Prizes, its ranks and sums.
-/
import Derived.Test.YtbdaaopebgcnaaaGreatDoorLibOM
set_option linter.all false
set_option maxRecDepth 10000
set_option maxHeartbeats 2000000
namespace Go.Proofs.YtbdaaopebgcnaaaGreatDoor
open Go.Ideal En
