/-
  kinds.Compile of the example is known; kinds.Check of what it gives.
-/
import Derived.Test.YtoohgkkmdnbnfaaGreatDoorSaneCB
set_option linter.all false
namespace Go.Proofs.YtoohgkkmdnbnfaaGreatDoor
open Go.Ideal
noncomputable def Ed:Nat->Option (dI->IH->Option (Value×IH)):=λf=>cond (Nat.beq f 33) (some (AA 6 Gz A7 vG 33 [AZ] Lp)) (Ec f)
theorem acm{q:dI}{h:IH}{v:Value}{h':IH}(hm:AA 6 Gz A7 vG 33 [AZ] Lp q h=some (v,h')):CALL Tryz.prog q h (λr pm h2=>r=.ok v/\pm=none/\h2=h'):=
 Qz (by kernel_rfl) (Cy acj ack) hm
theorem Sb{f:Nat}{g:dI->IH->Option (Value×IH)}(hm:Ed f=some g){q:dI}{h:IH}{v:Value}{h':IH}(ht:g q h=some (v,h')):CALL Tryz.prog q h (λr pm h2=>r=.ok v/\pm=none/\h2=h'):=by
 simp only[Ed]at hm;cases h1:Nat.beq f 33 with
 |true=>rw[h1]at hm;cases hm;exact acm ht
 |false=>rw[h1]at hm;exact R9 hm ht
noncomputable def Sc:Env:=mJ Tryz.prog (Fw 254 301) Ed
theorem acn:uM Sc:=wF _ _ _ (by
 intro f q h v h' hm _ _;cases e:Ed f with
 |none=>rw[e]at hm;cases hm
 |some g=>rw[e]at hm;exact Sb e hm)
noncomputable def Lr:Value:=.agg ⟨[eG [107],.int .i64 (.ofNat 1),.int .i64 (.ofNat 1),.int .i64 (.ofNat 2),.int .i64 (.ofNat 2),.slice none 0 0,.slice (some ⟨249,0,some 2⟩) 2 2,.slice none 0 0,.slice (some ⟨298,0,some 6⟩) 1 1,.slice (some ⟨307,0,some 12⟩) 2 2,.int .i64 (.ofNat 1),.int .i64 (.ofNat 2),.int .i64 (.ofNat 2),.slice none 0 0,.slice (some ⟨397,0,some 1⟩) 4 4,.slice (some ⟨422,0,some 0⟩) 4 4,.slice (some ⟨1161,0,some 1⟩) 8 8]⟩
theorem aco:(xZ Sc 1000000).call ⟨.func 36,[Lr],[],none⟩ ⟨heapT A7,vG,vG⟩ (gives (.int .i64 (.ofNat 0)) vG)=true:=by kernel_rfl
