/-
  kinds.Compile of the example is known; kinds.Check of what it gives.
-/
import Derived.Test.YtoohgkkmdnbnfaaGreatDoorSaneCA
set_option linter.all false
namespace Go.Proofs.YtoohgkkmdnbnfaaGreatDoor
open Go.Ideal
noncomputable def FO:Nat->Option (dO->IH->Option (Value×IH)):=λf=>cond (Nat.beq f 33) (some (Cc 6 I7 Cs wL 33 [Cr] Nq)) (FN f)
theorem aeX{q:dO}{h:IH}{v:Value}{h':IH}(hm:Cc 6 I7 Cs wL 33 [Cr] Nq q h=some (v,h')):CALL Tryz.prog q h (λr pm h2=>r=.ok v/\pm=none/\h2=h'):=
 SI (by kernel_rfl) (Eh aeV aeW) hm
theorem UM{f:Nat}{g:dO->IH->Option (Value×IH)}(hm:FO f=some g){q:dO}{h:IH}{v:Value}{h':IH}(ht:g q h=some (v,h')):CALL Tryz.prog q h (λr pm h2=>r=.ok v/\pm=none/\h2=h'):=by
 simp only[FO]at hm;cases h1:Nat.beq f 33 with
 |true=>rw[h1]at hm;cases hm;exact aeX ht
 |false=>rw[h1]at hm;exact UK hm ht
noncomputable def UN:Env:=nN Tryz.prog (Hg 254 301) FO
theorem aeY:vR UN:=xL _ _ _ (by
 intro f q h v h' hm _ _;cases e:FO f with
 |none=>rw[e]at hm;cases hm
 |some g=>rw[e]at hm;exact UM e hm)
noncomputable def Nr:Value:=.agg ⟨[fw [107],.int .i64 (.ofNat 1),.int .i64 (.ofNat 1),.int .i64 (.ofNat 2),.int .i64 (.ofNat 2),.slice none 0 0,.slice (some ⟨249,0,some 2⟩) 2 2,.slice none 0 0,.slice (some ⟨298,0,some 6⟩) 1 1,.slice (some ⟨307,0,some 12⟩) 2 2,.int .i64 (.ofNat 1),.int .i64 (.ofNat 2),.int .i64 (.ofNat 2),.slice none 0 0,.slice (some ⟨397,0,some 1⟩) 4 4,.slice (some ⟨422,0,some 0⟩) 4 4,.slice (some ⟨1161,0,some 1⟩) 8 8]⟩
theorem aeZ:(zl UN 1000000).call ⟨.func 36,[Nr],[],none⟩ ⟨heapT Cs,wL,wL⟩ (gives (.int .i64 (.ofNat 0)) wL)=true:=by kernel_rfl
