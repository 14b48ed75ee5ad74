/-
  sane() of law55 is true.
-/
import Derived.Test.YtbdaaopebgcnaaaGreatDoorSaneAM
set_option linter.all false
namespace Go.Proofs.YtbdaaopebgcnaaaGreatDoor
open Go.Ideal
noncomputable def Uk:Nat->Option (eH->IH->Option (Value×IH)):=λf=>cond (Nat.beq f 14) (some (known Ui 843 14 Uj Io)) none
noncomputable def Ul:Env:=qj Tryz.prog o8 Uk
theorem aes:Af Ul:=CW _ _ _ (by
 intro f q h v h' hm hpm ht;simp only[Uk]at hm;cases h2:Nat.beq f 14 with
 |true=>
  rw[h2]at hm;exact acr follows aeq (by kernel_rfl) (by kernel_rfl) (by show Tryz.prog.globals.size<=843;rw[globals];decide) (.wX _ (KY Uh aer) λ_ _ _ hg=>QA hg) hm
 |false=>rw[h2]at hm;cases hm)
theorem aet:(Ch Ul 1000000).call ⟨.func 8,[],[],none⟩ ⟨.leaf,4,4⟩ (gives (.bool true) 4)=true:=by kernel_rfl
theorem aeu:CALL Tryz.prog ⟨.func 8,[],[],none⟩ ⟨.leaf,4,4⟩ (λr pm h=>pm=none/\r=.ok (.bool true)/\h.low=4):=
 .wX _ (KY aes aet) λ_ _ _ hg=>QA hg
theorem aev(h:IH)(hn:4<=h.next):CALL Tryz.prog ⟨.func 8,[],[],none⟩ h (λr pm h'=>pm=none/\r=.ok (.bool true)/\h'=h):=
 .memo ⟨.leaf,4,4⟩ (.bool true) rfl rfl rfl hn (by rw[globals];exact aG _) (by intro i o ho;cases ho) _ aeu (λr pm h' q=>q) ⟨rfl,rfl,rfl⟩
theorem M0:gy Tryz.prog 8 [] [AY 4] (.bool true):=acn aev
