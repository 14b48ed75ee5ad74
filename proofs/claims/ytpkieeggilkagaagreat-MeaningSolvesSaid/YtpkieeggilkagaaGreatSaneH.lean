/-
  The heap in which row() is called.
-/
import Derived.Test.YtpkieeggilkagaaGreatChecked
import Derived.Test.YtpkieeggilkagaaGreatIdealG
import Derived.KernelRfl
set_option linter.unusedSimpArgs false
set_option linter.unusedVariables false
namespace Go.Proofs.YtpkieeggilkagaaGreat
open Go.Ideal
def sV0(l:List Nat):Value:=.string ⟨⟨l.map UInt8.ofNat⟩⟩
def zKO:List Value:=[sV0 [],sV0 [],.int .i64 0,.int .i64 0,.slice none 0 0,.slice none 0 0,.int .i64 0,.int .i64 0,.int .i64 0,.int .i64 0,sV0 [],.int .i64 0]
def zKD:List Value:=[sV0 [108],sV0 [],.int .i64 10,.int .i64 0,.slice (some ⟨0,0,some 0⟩) 1 1,.slice none 0 0,.int .i64 2,.int .i64 0,.int .i64 0,.int .i64 0,sV0 [],.int .i64 (-1)]
def zJO:List Value:=[sV0 [114],sV0 [114,111,119,115],.int .i64 5,.int .i64 1,.slice (some ⟨2,0,some 0⟩) 1 1,.slice none 0 0,.int .i64 2,.int .i64 0,.int .i64 0,.int .i64 0,sV0 [110],.int .i64 0]
noncomputable def zUv:IH:=(((((((⟨.leaf,0,0⟩:IH).new (.cells [sV0 [98]])).new (.cells zKO)).set 1 (.cells zKD)).new (.cells [sV0 [98]])).new (.cells zKO)).set 3 (.cells zJO)).new (.cells (zKD++zJO))
def zUn:List Value:=[.slice (some ⟨4,0,some 0⟩) 2 2]
theorem follows:Tryz.prog.follows .mixedOrders=true:=by kernel_rfl
theorem globals:Tryz.prog.globals.size=0:=by kernel_rfl
noncomputable def zT8:Env:=zC3 Tryz.prog (zM8 260 290) zBH
theorem zLd:zJH zT8:=zCd _ _ _ (fun f q h v h' hm=>by cases hm)
end Go.Proofs.YtpkieeggilkagaaGreat
