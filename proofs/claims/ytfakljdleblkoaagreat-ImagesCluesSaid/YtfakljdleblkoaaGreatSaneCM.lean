/-
  sane() is true.
-/
import Derived.Test.YtfakljdleblkoaaGreatSaneBM
import Derived.Test.YtfakljdleblkoaaGreatIdealMM
set_option linter.all false
namespace Go.Proofs.YtfakljdleblkoaaGreat
open Go.Ideal
noncomputable def Xe:Nat->Option (gK->IH->Option (Value×IH)):=λf=>
 cond (Nat.beq f 28) (some (NA KC Bz 28 KA)) (cond (Nat.beq f 30) (some (known KC Bz 30 [KA] (.int .i64 (.ofNat 0)))) none)
noncomputable def Xf:Env:=p9 Tryz.prog (TV 69 319) Xe
theorem ahf:A8 Xf:=CQ _ _ _ (by
 intro f q h v h' hm hpm ht;simp only[Xe]at hm;cases h1:Nat.beq f 28 with
 |true=>
  rw[h1]at hm;exact ac0 (Im Xd ahd) hm
 |false=>
  rw[h1]at hm;cases h2:Nat.beq f 30 with
  |true=>
   rw[h2]at hm;exact acZ (by kernel_rfl) (by kernel_rfl) (by kernel_rfl) (by show Tryz.prog.globals.size<=Bz;rw[globals];exact dK _) (.rU _ (Im Xd ahe) λ_ _ _ hg=>TY hg) hm
  |false=>rw[h2]at hm;cases hm)
theorem ahg:(Cs Xf 1000000).call ⟨.func 10,[],[],none⟩ ⟨.leaf,0,0⟩ (gives (.bool true) 0)=true:=by kernel_rfl
theorem ahh:CALL Tryz.prog ⟨.func 10,[],[],none⟩ ⟨.leaf,0,0⟩ (λr pm h=>pm=none/\r=.ok (.bool true)/\h.low=0):=
 .rU _ (Im ahf ahg) λ_ _ _ hg=>TY hg
theorem ahi(h:IH):CALL Tryz.prog ⟨.func 10,[],[],none⟩ h (λr pm h'=>pm=none/\r=.ok (.bool true)/\h'=h):=
 .memo ⟨.leaf,0,0⟩ (.bool true) rfl rfl rfl (dK _) (by rw[globals];exact dK _) (by intro i o ho;cases ho) _ ahh (λr pm h' q=>q) ⟨rfl,rfl,rfl⟩
theorem Pq:eG Tryz.prog 10 [] [] (.bool true):=aem ahi
