/-
  The heap in which row() is called.
-/
import Derived.Test.YtpkieeggilkagaaGreatChecked
import Derived.Test.YtpkieeggilkagaaGreatIdealG
import Derived.KernelRfl
namespace Go.Proofs.YtpkieeggilkagaaGreat
open Go.Ideal
def strV (l : List Nat) : Value := .string ⟨⟨l.map UInt8.ofNat⟩⟩
def zeroRule : List Value := [strV [], strV [], .int .i64 0, .int .i64 0, .slice none 0 0, .slice none 0 0, .int .i64 0, .int .i64 0, .int .i64 0, .int .i64 0, strV [], .int .i64 0]
def loopRule : List Value := [strV [108], strV [], .int .i64 10, .int .i64 0, .slice (some ⟨0, 0, some 0⟩) 1 1, .slice none 0 0, .int .i64 2, .int .i64 0, .int .i64 0, .int .i64 0, strV [], .int .i64 (-1)]
def runsRule : List Value := [strV [114], strV [114, 111, 119, 115], .int .i64 5, .int .i64 1, .slice (some ⟨2, 0, some 0⟩) 1 1, .slice none 0 0, .int .i64 2, .int .i64 0, .int .i64 0, .int .i64 0, strV [110], .int .i64 0]
noncomputable def rowH : IH := (((((((⟨.leaf, 0, 0⟩ : IH).new (.cells [strV [98]])).new (.cells zeroRule)).set 1 (.cells loopRule)).new (.cells [strV [98]])).new (.cells zeroRule)).set 3 (.cells runsRule)).new (.cells (loopRule ++ runsRule))
def rowA : List Value := [.slice (some ⟨4, 0, some 0⟩) 2 2]
theorem follows : Tryz.prog.follows .mixedOrders = true := by kernel_rfl
theorem globals : Tryz.prog.globals.size = 0 := by kernel_rfl
noncomputable def env0 : Env := envOf Tryz.prog (cutKeys 260 290) noMemo
theorem env0_ok : EnvOK env0 := envOf_ok _ _ _ (fun f q h v h' hm => by cases hm)
end Go.Proofs.YtpkieeggilkagaaGreat
