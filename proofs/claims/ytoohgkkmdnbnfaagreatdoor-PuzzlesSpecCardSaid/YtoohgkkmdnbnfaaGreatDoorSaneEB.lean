/-
  sane() is true.
-/
import Derived.Test.YtoohgkkmdnbnfaaGreatDoorSaneDB
set_option linter.all false
namespace Go.Proofs.YtoohgkkmdnbnfaaGreatDoor
open Go.Ideal
noncomputable def GD:Nat->Option (dI->IH->Option (Value×IH)):=λf=>cond (Nat.beq f 36) (some (known A7 vG 36 [Lr] (.int .i64 (.ofNat 0)))) (Ed f)
theorem acp{q:dI}{h:IH}{v:Value}{h':IH}(hm:known A7 vG 36 [Lr] (.int .i64 (.ofNat 0)) q h=some (v,h')):CALL Tryz.prog q h (λr pm h2=>r=.ok v/\pm=none/\h2=h'):=
 XC (by kernel_rfl) (by kernel_rfl) (by kernel_rfl) (by show Tryz.prog.globals.size<=vG;rw[globals];decide) (.qL _ (Cy acn aco) λ_ _ _ hg=>Ow hg) hm
theorem acr{f:Nat}{g:dI->IH->Option (Value×IH)}(hm:GD f=some g){q:dI}{h:IH}{v:Value}{h':IH}(ht:g q h=some (v,h')):CALL Tryz.prog q h (λr pm h2=>r=.ok v/\pm=none/\h2=h'):=by
 simp only[GD]at hm;cases h1:Nat.beq f 36 with
 |true=>rw[h1]at hm;cases hm;exact acp ht
 |false=>rw[h1]at hm;exact Sb hm ht
noncomputable def Sd:Env:=mJ Tryz.prog (Fw 254 301) GD
theorem acs:uM Sd:=wF _ _ _ (by
 intro f q h v h' hm _ _;cases e:GD f with
 |none=>rw[e]at hm;cases hm
 |some g=>rw[e]at hm;exact acr e hm)
theorem acu:(xZ Sd 1000000).call ⟨.func 10,[],[],none⟩ Gz (gives (.bool true) 6)=true:=by kernel_rfl
theorem acv:CALL Tryz.prog ⟨.func 10,[],[],none⟩ ⟨.leaf,6,6⟩ (λr pm h=>pm=none/\r=.ok (.bool true)/\h.low=6):=
 .qL _ (Cy acs acu) λ_ _ _ hg=>Ow hg
theorem acw(h:IH)(hn:6<=h.next):CALL Tryz.prog ⟨.func 10,[],[],none⟩ h (λr pm h'=>pm=none/\r=.ok (.bool true)/\h'=h):=
 .memo ⟨.leaf,6,6⟩ (.bool true) rfl rfl rfl hn (by rw[globals];exact bI _) (by intro i o ho;cases ho) _ acv (λr pm h' q=>q) ⟨rfl,rfl,rfl⟩
theorem acy:bY Tryz.prog 10 [] [F9 6] (.bool true):=ZZ acw
