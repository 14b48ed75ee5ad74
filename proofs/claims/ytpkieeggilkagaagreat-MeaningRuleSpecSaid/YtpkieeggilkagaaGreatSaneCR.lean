/-
  Part SaneCR.
-/
import Derived.Test.YtpkieeggilkagaaGreatSaneBR
import Derived.Test.YtpkieeggilkagaaGreatIdealMR
set_option linter.all false
namespace Go.Proofs.YtpkieeggilkagaaGreat
open Go.Ideal
noncomputable def UK:Nat->Option (gN->IH->Option (Value×IH)):=λf=>
 cond (Nat.beq f 31) (some (MQ UH Jz AP 31 UI Jy)) (cond (Nat.beq f 39) (some (known Jz AP 39 [Jy] (.int .i64 (.ofNat 0)))) none)
noncomputable def UL:Env:=pK Tryz.prog (Rq 260 290) UK
theorem aee:Ad UL:=Cj _ _ _ (by
 intro f q h v h' hm hpm ht;simp only[UK]at hm;cases h1:Nat.beq f 31 with
 |true=>
  rw[h1]at hm;exact ack (by kernel_rfl) (Hl UJ aec) hm
 |false=>
  rw[h1]at hm;cases h2:Nat.beq f 39 with
  |true=>
   rw[h2]at hm;exact aaw (by kernel_rfl) (by kernel_rfl) (by kernel_rfl) (by show Tryz.prog.globals.size<=AP;rw[globals];exact bJ _) (.vH _ (Hl UJ aed) λ_ _ _ hg=>Ru hg) hm
  |false=>rw[h2]at hm;cases hm)
theorem aef:(BN UL 1000000).call ⟨.func 11,[],[],none⟩ ⟨.leaf,0,0⟩ (gives (.bool true) 0)=true:=by kernel_rfl
theorem aeg:CALL Tryz.prog ⟨.func 11,[],[],none⟩ ⟨.leaf,0,0⟩ (λr pm h=>pm=none/\r=.ok (.bool true)/\h.low=0):=
 .vH _ (Hl aee aef) λ_ _ _ hg=>Ru hg
theorem aeh(h:IH):CALL Tryz.prog ⟨.func 11,[],[],none⟩ h (λr pm h'=>pm=none/\r=.ok (.bool true)/\h'=h):=
 .memo ⟨.leaf,0,0⟩ (.bool true) rfl rfl rfl (bJ _) (by rw[globals];exact bJ _) (by intro i o ho;cases ho) _ aeg (λr pm h' q=>q) ⟨rfl,rfl,rfl⟩
theorem aei:bV Tryz.prog 11 [] [] (.bool true):=abT aeh
