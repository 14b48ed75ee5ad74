/-
  Part SaneCK.
-/
import Derived.Test.YtfakljdleblkoaaGreatSaneBK
import Derived.Test.YtfakljdleblkoaaGreatIdealMK
set_option linter.all false
namespace Go.Proofs.YtfakljdleblkoaaGreat
open Go.Ideal
noncomputable def Uj:Nat->Option (gD->IH->Option (Value×IH)):=λf=>
 cond (Nat.beq f 28) (some (Lx Jc Am 28 Jb)) (cond (Nat.beq f 30) (some (known Jc Am 30 [Jb] (.int .i64 (.ofNat 0)))) none)
noncomputable def Uk:Env:=pu Tryz.prog (QM 69 319) Uj
theorem aea:zQ Uk:=BD _ _ _ (by
 intro f q h v h' hm hpm ht;simp only[Uj]at hm;cases h1:Nat.beq f 28 with
 |true=>
  rw[h1]at hm;exact aao (Gu Ui ad8) hm
 |false=>
  rw[h1]at hm;cases h2:Nat.beq f 30 with
  |true=>
   rw[h2]at hm;exact aan (by kernel_rfl) (by kernel_rfl) (by kernel_rfl) (by show Tryz.prog.globals.size<=Am;rw[globals];exact bQ _) (.qY _ (Gu Ui ad9) λ_ _ _ hg=>QO hg) hm
  |false=>rw[h2]at hm;cases hm)
theorem aeb:(Bh Uk 1000000).call ⟨.func 10,[],[],none⟩ ⟨.leaf,0,0⟩ (gives (.bool true) 0)=true:=by kernel_rfl
theorem aec:CALL Tryz.prog ⟨.func 10,[],[],none⟩ ⟨.leaf,0,0⟩ (λr pm h=>pm=none/\r=.ok (.bool true)/\h.low=0):=
 .qY _ (Gu aea aeb) λ_ _ _ hg=>QO hg
theorem aed(h:IH):CALL Tryz.prog ⟨.func 10,[],[],none⟩ h (λr pm h'=>pm=none/\r=.ok (.bool true)/\h'=h):=
 .memo ⟨.leaf,0,0⟩ (.bool true) rfl rfl rfl (bQ _) (by rw[globals];exact bQ _) (by intro i o ho;cases ho) _ aec (λr pm h' q=>q) ⟨rfl,rfl,rfl⟩
theorem aee:dL Tryz.prog 10 [] [] (.bool true):=abK aed
