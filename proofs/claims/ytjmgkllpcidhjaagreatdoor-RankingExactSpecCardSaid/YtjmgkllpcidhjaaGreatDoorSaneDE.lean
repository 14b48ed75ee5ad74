/-
  sane() is true.
-/
import Derived.Test.YtjmgkllpcidhjaaGreatDoorSaneCE
set_option linter.all false
set_option maxRecDepth 10000
namespace Go.Proofs.YtjmgkllpcidhjaaGreatDoor
open Go.Ideal
theorem Uv:(oQ KU 1000000).call ⟨.func 10,[],[],none⟩ ⟨.leaf,4,4⟩ (gives (.bool true) 4)=true:=by kernel_rfl
theorem Uw:CALL Tryz.prog ⟨.func 10,[],[],none⟩ ⟨.leaf,4,4⟩ (λr pm h=>pm=none/\r=.ok (.bool true)/\h.low=4):=
 .qM _ (sW Uu Uv) λ_ _ _ hg=>IJ hg
theorem Ux(h:IH)(hn:4<=h.next):CALL Tryz.prog ⟨.func 10,[],[],none⟩ h (λr pm h'=>pm=none/\r=.ok (.bool true)/\h'=h):=
 .memo ⟨.leaf,4,4⟩ (.bool true) rfl rfl rfl hn (by rw[globals];exact az _) (by intro i o ho;cases ho) _ Uw (λr pm h' q=>q) ⟨rfl,rfl,rfl⟩
theorem Uy:fG Tryz.prog 10 [] [Av 4] (.bool true):=SA Ux
