/-
  sane() is true.
-/
import Derived.Test.YtoohgkkmdnbnfaaGreatDoorSaneDA
set_option linter.all false
namespace Go.Proofs.YtoohgkkmdnbnfaaGreatDoor
open Go.Ideal
noncomputable def I9:Nat->Option (dO->IH->Option (Value×IH)):=λf=>cond (Nat.beq f 36) (some (known Cs wL 36 [Nr] (.int .i64 (.ofNat 0)))) (FO f)
theorem ae0{q:dO}{h:IH}{v:Value}{h':IH}(hm:known Cs wL 36 [Nr] (.int .i64 (.ofNat 0)) q h=some (v,h')):CALL Tryz.prog q h (λr pm h2=>r=.ok v/\pm=none/\h2=h'):=
 ZN (by kernel_rfl) (by kernel_rfl) (by kernel_rfl) (by show Tryz.prog.globals.size<=wL;rw[globals];decide) (.qF _ (Eh aeY aeZ) λ_ _ _ hg=>Qv hg) hm
theorem ae1{f:Nat}{g:dO->IH->Option (Value×IH)}(hm:I9 f=some g){q:dO}{h:IH}{v:Value}{h':IH}(ht:g q h=some (v,h')):CALL Tryz.prog q h (λr pm h2=>r=.ok v/\pm=none/\h2=h'):=by
 simp only[I9]at hm;cases h1:Nat.beq f 36 with
 |true=>rw[h1]at hm;cases hm;exact ae0 ht
 |false=>rw[h1]at hm;exact UM hm ht
noncomputable def UO:Env:=nN Tryz.prog (Hg 254 301) I9
theorem ae2:vR UO:=xL _ _ _ (by
 intro f q h v h' hm _ _;cases e:I9 f with
 |none=>rw[e]at hm;cases hm
 |some g=>rw[e]at hm;exact ae1 e hm)
theorem ae3:(zl UO 1000000).call ⟨.func 10,[],[],none⟩ I7 (gives (.bool true) 6)=true:=by kernel_rfl
theorem ae4:CALL Tryz.prog ⟨.func 10,[],[],none⟩ ⟨.leaf,6,6⟩ (λr pm h=>pm=none/\r=.ok (.bool true)/\h.low=6):=
 .qF _ (Eh ae2 ae3) λ_ _ _ hg=>Qv hg
theorem ae5(h:IH)(hn:6<=h.next):CALL Tryz.prog ⟨.func 10,[],[],none⟩ h (λr pm h'=>pm=none/\r=.ok (.bool true)/\h'=h):=
 .memo ⟨.leaf,6,6⟩ (.bool true) rfl rfl rfl hn (by rw[globals];exact bJ _) (by intro i o ho;cases ho) _ ae4 (λr pm h' q=>q) ⟨rfl,rfl,rfl⟩
theorem ae6:dz Tryz.prog 10 [] [Il 6] (.bool true):=ace ae5
