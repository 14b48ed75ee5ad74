/-
  sane() is true.
-/
import Derived.Test.YtoohgkkmdnbnfaaGreatDoorSaneDG
set_option linter.all false
namespace Go.Proofs.YtoohgkkmdnbnfaaGreatDoor
open Go.Ideal
noncomputable def xK:Nat->Option (aK->IH->Option (Value×IH)):=λf=>cond (Nat.beq f 36) (some (known qN mF 36 [Be] (.int .i64 (.ofNat 0)))) (uh f)
theorem PL{q:aK}{h:IH}{v:Value}{h':IH}(hm:known qN mF 36 [Be] (.int .i64 (.ofNat 0)) q h=some (v,h')):CALL Tryz.prog q h (λr pm h2=>r=.ok v/\pm=none/\h2=h'):=
 La (by kernel_rfl) (by kernel_rfl) (by kernel_rfl) (by show Tryz.prog.globals.size<=mF;rw[globals];decide) (.oI _ (vI PI PK) λ_ _ _ hg=>DZ hg) hm
theorem PM{f:Nat}{g:aK->IH->Option (Value×IH)}(hm:xK f=some g){q:aK}{h:IH}{v:Value}{h':IH}(ht:g q h=some (v,h')):CALL Tryz.prog q h (λr pm h2=>r=.ok v/\pm=none/\h2=h'):=by
 simp only[xK]at hm;cases h1:Nat.beq f 36 with
 |true=>rw[h1]at hm;cases hm;exact PL ht
 |false=>rw[h1]at hm;exact FV hm ht
noncomputable def FX:Env:=iV Tryz.prog (vG 254 301) xK
theorem PN:l7 FX:=oJ _ _ _ (by
 intro f q h v h' hm _ _;cases e:xK f with
 |none=>rw[e]at hm;cases hm
 |some g=>rw[e]at hm;exact PM e hm)
theorem PO:(pR FX 1000000).call ⟨.func 10,[],[],none⟩ xI (gives (.bool true) 6)=true:=by kernel_rfl
theorem PP:CALL Tryz.prog ⟨.func 10,[],[],none⟩ ⟨.leaf,6,6⟩ (λr pm h=>pm=none/\r=.ok (.bool true)/\h.low=6):=
 .oI _ (vI PN PO) λ_ _ _ hg=>DZ hg
theorem PR(h:IH)(hn:6<=h.next):CALL Tryz.prog ⟨.func 10,[],[],none⟩ h (λr pm h'=>pm=none/\r=.ok (.bool true)/\h'=h):=
 .memo ⟨.leaf,6,6⟩ (.bool true) rfl rfl rfl hn (by rw[globals];exact aB _) (by intro i o ho;cases ho) _ PP (λr pm h' q=>q) ⟨rfl,rfl,rfl⟩
theorem FY:fV Tryz.prog 10 [] [tT 6] (.bool true):=NL PR
