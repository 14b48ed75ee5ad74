/-
  sane() is true.
-/
import Derived.Test.YtoohgkkmdnbnfaaGreatDoorSaneDD
set_option linter.all false
namespace Go.Proofs.YtoohgkkmdnbnfaaGreatDoor
open Go.Ideal
noncomputable def IU:Nat->Option (dP->IH->Option (Value×IH)):=λf=>cond (Nat.beq f 36) (some (known BX wF 36 [Na] (.int .i64 (.ofNat 0)))) (ED f)
theorem aej{q:dP}{h:IH}{v:Value}{h':IH}(hm:known BX wF 36 [Na] (.int .i64 (.ofNat 0)) q h=some (v,h')):CALL Tryz.prog q h (λr pm h2=>r=.ok v/\pm=none/\h2=h'):=
 Zn (by kernel_rfl) (by kernel_rfl) (by kernel_rfl) (by show Tryz.prog.globals.size<=wF;rw[globals];decide) (.qy _ (DI aeh aei) λ_ _ _ hg=>Ql hg) hm
theorem aek{f:Nat}{g:dP->IH->Option (Value×IH)}(hm:IU f=some g){q:dP}{h:IH}{v:Value}{h':IH}(ht:g q h=some (v,h')):CALL Tryz.prog q h (λr pm h2=>r=.ok v/\pm=none/\h2=h'):=by
 simp only[IU]at hm;cases h1:Nat.beq f 36 with
 |true=>rw[h1]at hm;cases hm;exact aej ht
 |false=>rw[h1]at hm;exact Uo hm ht
noncomputable def Ur:Env:=nE Tryz.prog (Gf 254 301) IU
theorem ael:vN Ur:=xD _ _ _ (by
 intro f q h v h' hm _ _;cases e:IU f with
 |none=>rw[e]at hm;cases hm
 |some g=>rw[e]at hm;exact aek e hm)
theorem aem:(y9 Ur 1000000).call ⟨.func 10,[],[],none⟩ IQ (gives (.bool true) 6)=true:=by kernel_rfl
theorem aen:CALL Tryz.prog ⟨.func 10,[],[],none⟩ ⟨.leaf,6,6⟩ (λr pm h=>pm=none/\r=.ok (.bool true)/\h.low=6):=
 .qy _ (DI ael aem) λ_ _ _ hg=>Ql hg
theorem aeo(h:IH)(hn:6<=h.next):CALL Tryz.prog ⟨.func 10,[],[],none⟩ h (λr pm h'=>pm=none/\r=.ok (.bool true)/\h'=h):=
 .memo ⟨.leaf,6,6⟩ (.bool true) rfl rfl rfl hn (by rw[globals];exact bQ _) (by intro i o ho;cases ho) _ aen (λr pm h' q=>q) ⟨rfl,rfl,rfl⟩
theorem aep:cK Tryz.prog 10 [] [H7 6] (.bool true):=abK aeo
