/-
  sane() of law55 is true.
-/
import Derived.Test.YtbdaaopebgcnaaaGreatDoorSaneAM
set_option linter.all false
namespace Go.Proofs.YtbdaaopebgcnaaaGreatDoor
open Go.Ideal
noncomputable def QT:Nat->Option (dO->IH->Option (Value×IH)):=λf=>cond (Nat.beq f 14) (some (known QR 843 14 QS FE)) none
noncomputable def QU:Env:=oz Tryz.prog nJ QT
theorem abN:yN QU:=Bd _ _ _ (by
 intro f q h v h' hm hpm ht;simp only[QT]at hm;cases h2:Nat.beq f 14 with
 |true=>
  rw[h2]at hm;exact ZB follows abL (by kernel_rfl) (by kernel_rfl) (by show Tryz.prog.globals.size<=843;rw[globals];decide) (.uV _ (IE QO abM) λ_ _ _ hg=>NA hg) hm
 |false=>rw[h2]at hm;cases hm)
theorem abO:(Ak QU 1000000).call ⟨.func 8,[],[],none⟩ ⟨.leaf,4,4⟩ (gives (.bool true) 4)=true:=by kernel_rfl
theorem abP:CALL Tryz.prog ⟨.func 8,[],[],none⟩ ⟨.leaf,4,4⟩ (λr pm h=>pm=none/\r=.ok (.bool true)/\h.low=4):=
 .uV _ (IE abN abO) λ_ _ _ hg=>NA hg
theorem abQ(h:IH)(hn:4<=h.next):CALL Tryz.prog ⟨.func 8,[],[],none⟩ h (λr pm h'=>pm=none/\r=.ok (.bool true)/\h'=h):=
 .memo ⟨.leaf,4,4⟩ (.bool true) rfl rfl rfl hn (by rw[globals];exact aC _) (by intro i o ho;cases ho) _ abP (λr pm h' q=>q) ⟨rfl,rfl,rfl⟩
theorem abR:ik Tryz.prog 8 [] [EO 4] (.bool true):=Zy abQ
