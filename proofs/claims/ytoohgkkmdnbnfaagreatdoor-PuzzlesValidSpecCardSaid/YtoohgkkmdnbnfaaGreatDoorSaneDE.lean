/-
  kinds.Compile of the example is known; kinds.Check of what it gives.
-/
import Derived.Test.YtoohgkkmdnbnfaaGreatDoorSaneCE
set_option linter.all false
namespace Go.Proofs.YtoohgkkmdnbnfaaGreatDoor
open Go.Ideal
noncomputable def Dl:Nat->Option (cz->IH->Option (Value×IH)):=λf=>cond (Nat.beq f 33) (some (Az 6 FV A9 uG 33 [A8] KE)) (Dk f)
theorem ace{q:cz}{h:IH}{v:Value}{h':IH}(hm:Az 6 FV A9 uG 33 [A8] KE q h=some (v,h')):CALL Tryz.prog q h (λr pm h2=>r=.ok v/\pm=none/\h2=h'):=
 QW (by kernel_rfl) (Cx ab9 acd) hm
theorem SF{f:Nat}{g:cz->IH->Option (Value×IH)}(hm:Dl f=some g){q:cz}{h:IH}{v:Value}{h':IH}(ht:g q h=some (v,h')):CALL Tryz.prog q h (λr pm h2=>r=.ok v/\pm=none/\h2=h'):=by
 simp only[Dl]at hm;cases h1:Nat.beq f 33 with
 |true=>rw[h1]at hm;cases hm;exact ace ht
 |false=>rw[h1]at hm;exact SC hm ht
noncomputable def SG:Env:=lK Tryz.prog (EE 254 301) Dl
theorem acf:uf SG:=vG _ _ _ (by
 intro f q h v h' hm _ _;cases e:Dl f with
 |none=>rw[e]at hm;cases hm
 |some g=>rw[e]at hm;exact SF e hm)
noncomputable def KF:Value:=.agg ⟨[dJ [107],.int .i64 (.ofNat 1),.int .i64 (.ofNat 1),.int .i64 (.ofNat 2),.int .i64 (.ofNat 2),.slice none 0 0,.slice (some ⟨249,0,some 2⟩) 2 2,.slice none 0 0,.slice (some ⟨298,0,some 6⟩) 1 1,.slice (some ⟨307,0,some 12⟩) 2 2,.int .i64 (.ofNat 1),.int .i64 (.ofNat 2),.int .i64 (.ofNat 2),.slice none 0 0,.slice (some ⟨397,0,some 1⟩) 4 4,.slice (some ⟨422,0,some 0⟩) 4 4,.slice (some ⟨1161,0,some 1⟩) 8 8]⟩
theorem acg:(xq SG 1000000).call ⟨.func 36,[KF],[],none⟩ ⟨heapT A9,uG,uG⟩ (gives (.int .i64 (.ofNat 0)) uG)=true:=by kernel_rfl
