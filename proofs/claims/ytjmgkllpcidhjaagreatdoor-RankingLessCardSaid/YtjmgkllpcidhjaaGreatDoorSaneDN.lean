/-
  sane() is true.
-/
import Derived.Test.YtjmgkllpcidhjaaGreatDoorSaneCN
set_option linter.all false
set_option maxRecDepth 10000
namespace Go.Proofs.YtjmgkllpcidhjaaGreatDoor
open Go.Ideal
theorem aeo:(uB TJ 1000000).call ⟨.func 10,[],[],none⟩ ⟨.leaf,4,4⟩ (gives (.bool true) 4)=true:=by kernel_rfl
theorem aep:CALL Tryz.prog ⟨.func 10,[],[],none⟩ ⟨.leaf,4,4⟩ (λr pm h=>pm=none/\r=.ok (.bool true)/\h.low=4):=
 .uK _ (xY aen aeo) λ_ _ _ hg=>PP hg
theorem aeq(h:IH)(hn:4<=h.next):CALL Tryz.prog ⟨.func 10,[],[],none⟩ h (λr pm h'=>pm=none/\r=.ok (.bool true)/\h'=h):=
 .memo ⟨.leaf,4,4⟩ (.bool true) rfl rfl rfl hn (by rw[globals];exact aH _) (by intro i o ho;cases ho) _ aep (λr pm h' q=>q) ⟨rfl,rfl,rfl⟩
theorem AO:eY Tryz.prog 10 [] [uR 4] (.bool true):=abO aeq
