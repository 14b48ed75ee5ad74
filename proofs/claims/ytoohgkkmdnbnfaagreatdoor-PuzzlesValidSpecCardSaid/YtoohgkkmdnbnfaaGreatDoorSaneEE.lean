/-
  sane() is true.
-/
import Derived.Test.YtoohgkkmdnbnfaaGreatDoorSaneDE
set_option linter.all false
namespace Go.Proofs.YtoohgkkmdnbnfaaGreatDoor
open Go.Ideal
noncomputable def FX:Nat->Option (cz->IH->Option (Value×IH)):=λf=>cond (Nat.beq f 36) (some (known A9 uG 36 [KF] (.int .i64 (.ofNat 0)))) (Dl f)
theorem ach{q:cz}{h:IH}{v:Value}{h':IH}(hm:known A9 uG 36 [KF] (.int .i64 (.ofNat 0)) q h=some (v,h')):CALL Tryz.prog q h (λr pm h2=>r=.ok v/\pm=none/\h2=h'):=
 XP (by kernel_rfl) (by kernel_rfl) (by kernel_rfl) (by show Tryz.prog.globals.size<=uG;rw[globals];decide) (.oK _ (Cx acf acg) λ_ _ _ hg=>Ob hg) hm
theorem aci{f:Nat}{g:cz->IH->Option (Value×IH)}(hm:FX f=some g){q:cz}{h:IH}{v:Value}{h':IH}(ht:g q h=some (v,h')):CALL Tryz.prog q h (λr pm h2=>r=.ok v/\pm=none/\h2=h'):=by
 simp only[FX]at hm;cases h1:Nat.beq f 36 with
 |true=>rw[h1]at hm;cases hm;exact ach ht
 |false=>rw[h1]at hm;exact SF hm ht
noncomputable def SH:Env:=lK Tryz.prog (EE 254 301) FX
theorem acj:uf SH:=vG _ _ _ (by
 intro f q h v h' hm _ _;cases e:FX f with
 |none=>rw[e]at hm;cases hm
 |some g=>rw[e]at hm;exact aci e hm)
theorem ack:(xq SH 1000000).call ⟨.func 10,[],[],none⟩ FV (gives (.bool true) 6)=true:=by kernel_rfl
theorem acm:CALL Tryz.prog ⟨.func 10,[],[],none⟩ ⟨.leaf,6,6⟩ (λr pm h=>pm=none/\r=.ok (.bool true)/\h.low=6):=
 .oK _ (Cx acj ack) λ_ _ _ hg=>Ob hg
theorem acn(h:IH)(hn:6<=h.next):CALL Tryz.prog ⟨.func 10,[],[],none⟩ h (λr pm h'=>pm=none/\r=.ok (.bool true)/\h'=h):=
 .memo ⟨.leaf,6,6⟩ (.bool true) rfl rfl rfl hn (by rw[globals];exact bn _) (by intro i o ho;cases ho) _ acm (λr pm h' q=>q) ⟨rfl,rfl,rfl⟩
theorem aco:dS Tryz.prog 10 [] [Fe 6] (.bool true):=Zx acn
