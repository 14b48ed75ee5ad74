/-
  sane() is true.
-/
import Derived.Test.YtpkieeggilkagaaGreatSaneB
import Derived.Test.YtpkieeggilkagaaGreatIdealM
set_option linter.unusedSimpArgs false
set_option linter.unusedVariables false
namespace Go.Proofs.YtpkieeggilkagaaGreat
open Go.Ideal
noncomputable def zSp:Nat→Option (Req→IH→Option (Value×IH)):=fun f=>
 cond (Nat.beq f 31) (some (zD1 zUv zTn zQe 31 zUn zTZ)) (cond (Nat.beq f 39) (some (known zTn zQe 39 [zTZ] (.int .i64 (.ofNat 0)))) none)
noncomputable def zUm:Env:=zC3 Tryz.prog (zM8 260 290) zSp
theorem zRA:zJH zUm:=zCd _ _ _ (by
 intro f q h v h' hm hpm ht;simp only[zSp]at hm;cases h1:Nat.beq f 31 with
 |true=>
  rw[h1]at hm;exact zG4 (by kernel_rfl) (zCC zLd zRF) hm
 |false=>
  rw[h1]at hm;cases h2:Nat.beq f 39 with
  |true=>
   rw[h2]at hm;exact zPM (by kernel_rfl) (by kernel_rfl) (by kernel_rfl) (by show Tryz.prog.globals.size≤zQe;rw[globals];exact Nat.zero_le _) (.conseq _ (zCC zLd zNV) fun _ _ _ hg=>zGj hg) hm
  |false=>rw[h2]at hm;cases hm)
theorem zOs:(evB zUm 1000000).call ⟨.func 11,[],[],none⟩ ⟨.leaf,0,0⟩ (gives (.bool true) 0)=true:=by kernel_rfl
theorem sane_true:CALL Tryz.prog ⟨.func 11,[],[],none⟩ ⟨.leaf,0,0⟩ (fun r pm h=>pm=none∧r=.ok (.bool true)∧h.low=0):=
 .conseq _ (zCC zRA zOs) fun _ _ _ hg=>zGj hg
theorem zOB(h:IH):CALL Tryz.prog ⟨.func 11,[],[],none⟩ h (fun r pm h'=>pm=none∧r=.ok (.bool true)∧h'=h):=
 .memo ⟨.leaf,0,0⟩ (.bool true) rfl rfl rfl (Nat.zero_le _) (by rw[globals];exact Nat.zero_le _) (by intro i o ho;cases ho) _ sane_true (fun r pm h' q=>q) ⟨rfl,rfl,rfl⟩
theorem zNN:FnP Tryz.prog 11 [] [] (.bool true):=zLc zOB
end Go.Proofs.YtpkieeggilkagaaGreat
