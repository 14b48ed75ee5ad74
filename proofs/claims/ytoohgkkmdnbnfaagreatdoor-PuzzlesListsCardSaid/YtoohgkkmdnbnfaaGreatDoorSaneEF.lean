/-
  sane() is true.
-/
import Derived.Test.YtoohgkkmdnbnfaaGreatDoorSaneDF
set_option linter.all false
namespace Go.Proofs.YtoohgkkmdnbnfaaGreatDoor
open Go.Ideal
noncomputable def Iw:Nat->Option (dN->IH->Option (Value×IH)):=λf=>cond (Nat.beq f 36) (some (known BL wy 36 [MN] (.int .i64 (.ofNat 0)))) (Eu f)
theorem ad9{q:dN}{h:IH}{v:Value}{h':IH}(hm:known BL wy 36 [MN] (.int .i64 (.ofNat 0)) q h=some (v,h')):CALL Tryz.prog q h (λr pm h2=>r=.ok v/\pm=none/\h2=h'):=
 Y1 (by kernel_rfl) (by kernel_rfl) (by kernel_rfl) (by show Tryz.prog.globals.size<=wy;rw[globals];decide) (.qj _ (Du ad7 ad8) λ_ _ _ hg=>PX hg) hm
theorem aea{f:Nat}{g:dN->IH->Option (Value×IH)}(hm:Iw f=some g){q:dN}{h:IH}{v:Value}{h':IH}(ht:g q h=some (v,h')):CALL Tryz.prog q h (λr pm h2=>r=.ok v/\pm=none/\h2=h'):=by
 simp only[Iw]at hm;cases h1:Nat.beq f 36 with
 |true=>rw[h1]at hm;cases hm;exact ad9 ht
 |false=>rw[h1]at hm;exact TU hm ht
noncomputable def TW:Env:=nu Tryz.prog (FX 254 301) Iw
theorem aeb:vF TW:=xq _ _ _ (by
 intro f q h v h' hm _ _;cases e:Iw f with
 |none=>rw[e]at hm;cases hm
 |some g=>rw[e]at hm;exact aea e hm)
theorem aec:(yU TW 1000000).call ⟨.func 10,[],[],none⟩ Ir (gives (.bool true) 6)=true:=by kernel_rfl
theorem aed:CALL Tryz.prog ⟨.func 10,[],[],none⟩ ⟨.leaf,6,6⟩ (λr pm h=>pm=none/\r=.ok (.bool true)/\h.low=6):=
 .qj _ (Du aeb aec) λ_ _ _ hg=>PX hg
theorem aee(h:IH)(hn:6<=h.next):CALL Tryz.prog ⟨.func 10,[],[],none⟩ h (λr pm h'=>pm=none/\r=.ok (.bool true)/\h'=h):=
 .memo ⟨.leaf,6,6⟩ (.bool true) rfl rfl rfl hn (by rw[globals];exact bP _) (by intro i o ho;cases ho) _ aed (λr pm h' q=>q) ⟨rfl,rfl,rfl⟩
theorem aef:dG Tryz.prog 10 [] [Hf 6] (.bool true):=abp aee
