/-
  Part SaneHR.
-/
import Derived.Test.YtpkieeggilkagaaGreatChecked
import Derived.Test.YtpkieeggilkagaaGreatIdealGR
set_option linter.all false
namespace Go.Proofs.YtpkieeggilkagaaGreat
open Go.Ideal
def iU(l:List Nat):Value:=.string ⟨⟨l.map UInt8.ofNat⟩⟩
def UE:List Value:=[iU [],iU [],.int .i64 0,.int .i64 0,.slice none 0 0,.slice none 0 0,.int .i64 0,.int .i64 0,.int .i64 0,.int .i64 0,iU [],.int .i64 0]
def UF:List Value:=[iU [108],iU [],.int .i64 10,.int .i64 0,.slice (some ⟨0,0,some 0⟩) 1 1,.slice none 0 0,.int .i64 2,.int .i64 0,.int .i64 0,.int .i64 0,iU [],.int .i64 (-1)]
def UG:List Value:=[iU [114],iU [114,111,119,115],.int .i64 5,.int .i64 1,.slice (some ⟨2,0,some 0⟩) 1 1,.slice none 0 0,.int .i64 2,.int .i64 0,.int .i64 0,.int .i64 0,iU [110],.int .i64 0]
noncomputable def UH:IH:=(((((((⟨.leaf,0,0⟩:IH).new (.cells [iU [98]])).new (.cells UE)).set 1 (.cells UF)).new (.cells [iU [98]])).new (.cells UE)).set 3 (.cells UG)).new (.cells (UF++UG))
def UI:List Value:=[.slice (some ⟨4,0,some 0⟩) 2 2]
theorem follows:Tryz.prog.follows .mixedOrders=true:=by kernel_rfl
theorem globals:Tryz.prog.globals.size=0:=by kernel_rfl
noncomputable def NN:Env:=pK Tryz.prog (Rq 260 290) pM
theorem UJ:Ad NN:=Cj _ _ _ (λf q h v h' hm=>by cases hm)
