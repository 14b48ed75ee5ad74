/-
  Part SaneCX.
-/
import Derived.Test.YtoilpafpgndilaaGreatSaneBX
import Derived.Test.YtoilpafpgndilaaGreatIdealKX
set_option linter.all false
namespace Go.Proofs.YtoilpafpgndilaaGreat
open Go.Ideal
noncomputable def Vg:Nat->Option (gM->IH->Option (Value×IH)):=λf=>
 cond (Nat.beq f 30) (some (MH JG Be 30 [.bool false] JF)) (cond (Nat.beq f 74) (some (known JG Be 74 [JF] (.int .i64 (.ofNat 0)))) none)
noncomputable def Vh:Env:=pX Tryz.prog (RF 94 372) Vg
theorem aeU:Au Vh:=Cr _ _ _ (by
 intro f q h v h' hm hpm ht;simp only[Vg]at hm;cases h1:Nat.beq f 30 with
 |true=>
  rw[h1]at hm;exact acz (Hf Vf aeS) hm
 |false=>
  rw[h1]at hm;cases h2:Nat.beq f 74 with
  |true=>
   rw[h2]at hm;exact aa8 (by kernel_rfl) (by kernel_rfl) (by kernel_rfl) (by show Tryz.prog.globals.size<=Be;rw[globals];exact bR _) (.vT _ (Hf Vf aeT) λ_ _ _ hg=>RH hg) hm
  |false=>rw[h2]at hm;cases hm)
theorem aeV:(BV Vh 1000000).call ⟨.func 10,[],[],none⟩ ⟨.leaf,0,0⟩ (gives (.bool true) 0)=true:=by kernel_rfl
theorem aeW:CALL Tryz.prog ⟨.func 10,[],[],none⟩ ⟨.leaf,0,0⟩ (λr pm h=>pm=none/\r=.ok (.bool true)/\h.low=0):=
 .vT _ (Hf aeU aeV) λ_ _ _ hg=>RH hg
theorem aeX(h:IH):CALL Tryz.prog ⟨.func 10,[],[],none⟩ h (λr pm h'=>pm=none/\r=.ok (.bool true)/\h'=h):=
 .memo ⟨.leaf,0,0⟩ (.bool true) rfl rfl rfl (bR _) (by rw[globals];exact bR _) (by intro i o ho;cases ho) _ aeW (λr pm h' q=>q) ⟨rfl,rfl,rfl⟩
theorem Vi:dD Tryz.prog 10 [] [] (.bool true):=acA aeX
